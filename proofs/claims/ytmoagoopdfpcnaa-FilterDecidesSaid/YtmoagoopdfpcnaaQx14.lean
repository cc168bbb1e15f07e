-- Written by a program of this session (wip/myprint) out of the translation, for this claim.
-- narrow
import Derived.Test.YtmoagoopdfpcnaaQx0
import Derived.Test.YtmoagoopdfpcnaaQx5
import Derived.Test.YtmoagoopdfpcnaaQx8
import Derived.Test.YtmoagoopdfpcnaaQx10
import Derived.Test.YtmoagoopdfpcnaaQx11
import Derived.Test.YtmoagoopdfpcnaaQx12
import Derived.Test.YtmoagoopdfpcnaaQx13
import Derived.Test.YtmoagoopdfpcnaaEFilter
namespace Go.Proofs.Ytmoagoopdfpcnaa.Q
open Go.RowKit Go.Proofs.YtmoagoopdfpcnaaW.PrintWords Go.Proofs.YtmoagoopdfpcnaaW.PrintLast Go.Proofs.YtmoagoopdfpcnaaW.PrintMore
attribute [local go_sem] max2_int min2_int max_two min_two max_three min_three max_four min_four   -- for this text's walks alone
set_option linter.unusedVariables false
set_option linter.unusedSimpArgs false

/-! ### waymarklaw10_FilterDecides_E: function 3 -/
mutual
def waymarklaw10_FilterDecides_E.l0 : Nat → List (S40) → Int → Int → ByteArray → List (S33) → Bool → Int → Int → Int → Int → Int → Int → Int → Int → Int → ByteArray → List (S33) → Option (Bool)
 | 0, _, _, _, _, _, _, _, _, _, _, _, _, _, _, _, _, _ => none
 | k + 1, x1, x8, x9, x159000, x159001, x160000, x160001, x160002, x160003, x160004, x160005, x160006, x160007, x160008, x160009, x167000, x167001 => if x9 < (x1.length : Int) then (waymarklaw10_FilterDecides_E.j1 k x1 x8 x9 (decide (x9 < 30)) x159000 x159001 x160000 x160001 x160002 x160003 x160004 x160005 x160006 x160007 x160008 x160009 x167000 x167001) else (waymarklaw10_FilterDecides_E.j1 k x1 x8 x9 false x159000 x159001 x160000 x160001 x160002 x160003 x160004 x160005 x160006 x160007 x160008 x160009 x167000 x167001)
def waymarklaw10_FilterDecides_E.j1 : Nat → List (S40) → Int → Int → Bool → ByteArray → List (S33) → Bool → Int → Int → Int → Int → Int → Int → Int → Int → Int → ByteArray → List (S33) → Option (Bool)
 | 0, _, _, _, _, _, _, _, _, _, _, _, _, _, _, _, _, _, _ => none
 | k + 1, x1, x8, x9, x42, x159000, x159001, x160000, x160001, x160002, x160003, x160004, x160005, x160006, x160007, x160008, x160009, x167000, x167001 => if x42 = true then (if 0 ≤ x9 then (if x9 < (x1.length : Int) then ((filter_Decides.f x167000 x167001 ((rd_T40 x1 x9).f0) ((rd_T40 x1 x9).f1) ((rd_T40 x1 x9).f2) ((rd_T40 x1 x9).f3) ((rd_T40 x1 x9).f4)).bind fun bt172 => ((filter_Permits.f x167000 x167001 ((rd_T40 x1 x9).f0) ((rd_T40 x1 x9).f1) ((rd_T40 x1 x9).f2) ((rd_T40 x1 x9).f3) ((rd_T40 x1 x9).f4)).bind fun bt175 => ((filter_Fits.f k x160000 x160001 x160002 x160003 x160004 x160005 x160006 x160007 x160008 x160009 ((rd_T40 x1 x9).f0) ((rd_T40 x1 x9).f1) ((rd_T40 x1 x9).f2) ((rd_T40 x1 x9).f3) ((rd_T40 x1 x9).f4)).bind fun t178 => ((waymarkref10_Fits.f k x160000 x160001 x160002 x160003 x160004 x160005 x160006 x160007 x160008 x160009 ((rd_T40 x1 x9).f0) ((rd_T40 x1 x9).f1) ((rd_T40 x1 x9).f2) ((rd_T40 x1 x9).f3) ((rd_T40 x1 x9).f4)).bind fun t180 => (if (t178 != t180) = true then (waymarklaw10_FilterDecides_E.j2 k x1 x8 x9 bt172.1 bt175.1 true x159000 x159001 x160000 x160001 x160002 x160003 x160004 x160005 x160006 x160007 x160008 x160009 x167000 x167001) else (if bt172.2 = x8 then (waymarklaw10_FilterDecides_E.j2 k x1 x8 x9 bt172.1 bt175.1 (bt175.2 != x8) x159000 x159001 x160000 x160001 x160002 x160003 x160004 x160005 x160006 x160007 x160008 x160009 x167000 x167001) else (waymarklaw10_FilterDecides_E.j2 k x1 x8 x9 bt172.1 bt175.1 true x159000 x159001 x160000 x160001 x160002 x160003 x160004 x160005 x160006 x160007 x160008 x160009 x167000 x167001))))))) else (none)) else (none)) else ((waymarkref10_Rules.f k x167001 x159001).bind fun t169 => (if t169 = true then ((waymarklaw10_awake.f).bind fun t170 => (some t170)) else (none)))
def waymarklaw10_FilterDecides_E.j2 : Nat → List (S40) → Int → Int → Int → Bool → Bool → ByteArray → List (S33) → Bool → Int → Int → Int → Int → Int → Int → Int → Int → Int → ByteArray → List (S33) → Option (Bool)
 | 0, _, _, _, _, _, _, _, _, _, _, _, _, _, _, _, _, _, _, _, _ => none
 | k + 1, x1, x8, x9, x10, x12, x85, x159000, x159001, x160000, x160001, x160002, x160003, x160004, x160005, x160006, x160007, x160008, x160009, x167000, x167001 => if x85 = true then (none) else (if x8 = 0 then (if 0 ≤ x9 then (if x9 < (x1.length : Int) then ((waymarkref10_Decides.f k x159000 x159001 ((rd_T40 x1 x9).f0) ((rd_T40 x1 x9).f1) ((rd_T40 x1 x9).f2) ((rd_T40 x1 x9).f3) ((rd_T40 x1 x9).f4)).bind fun t182 => (if x10 = t182 then ((waymarkref10_Permits.f k x159000 x159001 ((rd_T40 x1 x9).f0) ((rd_T40 x1 x9).f1) ((rd_T40 x1 x9).f2) ((rd_T40 x1 x9).f3) ((rd_T40 x1 x9).f4)).bind fun t184 => (if (x12 != t184) = true then (none) else (waymarklaw10_FilterDecides_E.l0 k x1 x8 (wrap64 (x9 + 1)) x159000 x159001 x160000 x160001 x160002 x160003 x160004 x160005 x160006 x160007 x160008 x160009 x167000 x167001))) else (none))) else (none)) else (none)) else (if x10 = 0 then (if x12 = true then (none) else (waymarklaw10_FilterDecides_E.l0 k x1 x8 (wrap64 (x9 + 1)) x159000 x159001 x160000 x160001 x160002 x160003 x160004 x160005 x160006 x160007 x160008 x160009 x167000 x167001)) else (none)))
end
def waymarklaw10_FilterDecides_E.f (k : Nat) (a0_0 : ByteArray) (l0_1 : List (S33)) (l1 : List (S40)) (a2_0 : Bool) (a2_1 : Int) (a2_2 : Int) (a2_3 : Int) (a2_4 : Int) (a2_5 : Int) (a2_6 : Int) (a2_7 : Int) (a2_8 : Int) (a2_9 : Int) : Option (Bool) := if (l0_1.length : Int) > 300 then (none) else ((some (([] : List (S33)) : List (S33))).bind fun y160 => (if y160.length + l0_1.length < 2199023255552 then ((some (y160 ++ l0_1 : List (S33))).bind fun y163 => ((waymarkref10_Check.f k a0_0 l0_1).bind fun t167 => ((filter_Check.f a0_0 y163).bind fun t168 => (if t168 = t167 then (waymarklaw10_FilterDecides_E.l0 k l1 t167 0 a0_0 l0_1 a2_0 a2_1 a2_2 a2_3 a2_4 a2_5 a2_6 a2_7 a2_8 a2_9 a0_0 y163) else (none))))) else (none)))
theorem waymarklaw10_FilterDecides_E.mono_l : ∀ k, (∀ y0 y1 y2 y3 y4 y5 y6 y7 y8 y9 y10 y11 y12 y13 y14 y15 y16, LeO (waymarklaw10_FilterDecides_E.l0 k y0 y1 y2 y3 y4 y5 y6 y7 y8 y9 y10 y11 y12 y13 y14 y15 y16) (waymarklaw10_FilterDecides_E.l0 (k + 1) y0 y1 y2 y3 y4 y5 y6 y7 y8 y9 y10 y11 y12 y13 y14 y15 y16)) ∧ (∀ y0 y1 y2 y3 y4 y5 y6 y7 y8 y9 y10 y11 y12 y13 y14 y15 y16 y17, LeO (waymarklaw10_FilterDecides_E.j1 k y0 y1 y2 y3 y4 y5 y6 y7 y8 y9 y10 y11 y12 y13 y14 y15 y16 y17) (waymarklaw10_FilterDecides_E.j1 (k + 1) y0 y1 y2 y3 y4 y5 y6 y7 y8 y9 y10 y11 y12 y13 y14 y15 y16 y17)) ∧ (∀ y0 y1 y2 y3 y4 y5 y6 y7 y8 y9 y10 y11 y12 y13 y14 y15 y16 y17 y18 y19, LeO (waymarklaw10_FilterDecides_E.j2 k y0 y1 y2 y3 y4 y5 y6 y7 y8 y9 y10 y11 y12 y13 y14 y15 y16 y17 y18 y19) (waymarklaw10_FilterDecides_E.j2 (k + 1) y0 y1 y2 y3 y4 y5 y6 y7 y8 y9 y10 y11 y12 y13 y14 y15 y16 y17 y18 y19))
 | 0 => ⟨fun _ _ _ _ _ _ _ _ _ _ _ _ _ _ _ _ _ r h => by simp [waymarklaw10_FilterDecides_E.l0] at h, fun _ _ _ _ _ _ _ _ _ _ _ _ _ _ _ _ _ _ r h => by simp [waymarklaw10_FilterDecides_E.j1] at h, fun _ _ _ _ _ _ _ _ _ _ _ _ _ _ _ _ _ _ _ _ r h => by simp [waymarklaw10_FilterDecides_E.j2] at h⟩
 | k + 1 => by
  obtain ⟨ih0, ih1, ih2⟩ := waymarklaw10_FilterDecides_E.mono_l k
  refine ⟨?_, ?_, ?_⟩
  ·intro y0 y1 y2 y3 y4 y5 y6 y7 y8 y9 y10 y11 y12 y13 y14 y15 y16
   unfold waymarklaw10_FilterDecides_E.l0
   repeat' first
   | (with_reducible exact ih0 _ _ _ _ _ _ _ _ _ _ _ _ _ _ _ _ _)
   | (with_reducible exact ih1 _ _ _ _ _ _ _ _ _ _ _ _ _ _ _ _ _ _)
   | (with_reducible exact ih2 _ _ _ _ _ _ _ _ _ _ _ _ _ _ _ _ _ _ _ _)
   | (with_reducible exact filter_Fits.mono _ _ _ _ _ _ _ _ _ _ _ _ _ _ _ _)
   | (with_reducible exact waymarkref10_Check.mono _ _ _)
   | (with_reducible exact waymarkref10_Decides.mono _ _ _ _ _ _ _ _)
   | (with_reducible exact waymarkref10_Fits.mono _ _ _ _ _ _ _ _ _ _ _ _ _ _ _ _)
   | (with_reducible exact waymarkref10_Permits.mono _ _ _ _ _ _ _ _)
   | (with_reducible exact waymarkref10_Rules.mono _ _ _)
   | (with_reducible exact LeO.refl _)
   | (with_reducible exact LeO.none _)
   | (with_reducible refine LeO.ite ?_ ?_)
   | (with_reducible refine LeO.bind ?_ (fun _ => ?_))
   | exact ih0 _ _ _ _ _ _ _ _ _ _ _ _ _ _ _ _ _
   | exact ih1 _ _ _ _ _ _ _ _ _ _ _ _ _ _ _ _ _ _
   | exact ih2 _ _ _ _ _ _ _ _ _ _ _ _ _ _ _ _ _ _ _ _
   | exact filter_Fits.mono _ _ _ _ _ _ _ _ _ _ _ _ _ _ _ _
   | exact waymarkref10_Check.mono _ _ _
   | exact waymarkref10_Decides.mono _ _ _ _ _ _ _ _
   | exact waymarkref10_Fits.mono _ _ _ _ _ _ _ _ _ _ _ _ _ _ _ _
   | exact waymarkref10_Permits.mono _ _ _ _ _ _ _ _
   | exact waymarkref10_Rules.mono _ _ _
   | exact LeO.none _
   | refine LeO.ite ?_ ?_
   | refine LeO.bind ?_ (fun _ => ?_)
  ·intro y0 y1 y2 y3 y4 y5 y6 y7 y8 y9 y10 y11 y12 y13 y14 y15 y16 y17
   unfold waymarklaw10_FilterDecides_E.j1
   repeat' first
   | (with_reducible exact ih0 _ _ _ _ _ _ _ _ _ _ _ _ _ _ _ _ _)
   | (with_reducible exact ih1 _ _ _ _ _ _ _ _ _ _ _ _ _ _ _ _ _ _)
   | (with_reducible exact ih2 _ _ _ _ _ _ _ _ _ _ _ _ _ _ _ _ _ _ _ _)
   | (with_reducible exact filter_Fits.mono _ _ _ _ _ _ _ _ _ _ _ _ _ _ _ _)
   | (with_reducible exact waymarkref10_Check.mono _ _ _)
   | (with_reducible exact waymarkref10_Decides.mono _ _ _ _ _ _ _ _)
   | (with_reducible exact waymarkref10_Fits.mono _ _ _ _ _ _ _ _ _ _ _ _ _ _ _ _)
   | (with_reducible exact waymarkref10_Permits.mono _ _ _ _ _ _ _ _)
   | (with_reducible exact waymarkref10_Rules.mono _ _ _)
   | (with_reducible exact LeO.refl _)
   | (with_reducible exact LeO.none _)
   | (with_reducible refine LeO.ite ?_ ?_)
   | (with_reducible refine LeO.bind ?_ (fun _ => ?_))
   | exact ih0 _ _ _ _ _ _ _ _ _ _ _ _ _ _ _ _ _
   | exact ih1 _ _ _ _ _ _ _ _ _ _ _ _ _ _ _ _ _ _
   | exact ih2 _ _ _ _ _ _ _ _ _ _ _ _ _ _ _ _ _ _ _ _
   | exact filter_Fits.mono _ _ _ _ _ _ _ _ _ _ _ _ _ _ _ _
   | exact waymarkref10_Check.mono _ _ _
   | exact waymarkref10_Decides.mono _ _ _ _ _ _ _ _
   | exact waymarkref10_Fits.mono _ _ _ _ _ _ _ _ _ _ _ _ _ _ _ _
   | exact waymarkref10_Permits.mono _ _ _ _ _ _ _ _
   | exact waymarkref10_Rules.mono _ _ _
   | exact LeO.none _
   | refine LeO.ite ?_ ?_
   | refine LeO.bind ?_ (fun _ => ?_)
  ·intro y0 y1 y2 y3 y4 y5 y6 y7 y8 y9 y10 y11 y12 y13 y14 y15 y16 y17 y18 y19
   unfold waymarklaw10_FilterDecides_E.j2
   repeat' first
   | (with_reducible exact ih0 _ _ _ _ _ _ _ _ _ _ _ _ _ _ _ _ _)
   | (with_reducible exact ih1 _ _ _ _ _ _ _ _ _ _ _ _ _ _ _ _ _ _)
   | (with_reducible exact ih2 _ _ _ _ _ _ _ _ _ _ _ _ _ _ _ _ _ _ _ _)
   | (with_reducible exact filter_Fits.mono _ _ _ _ _ _ _ _ _ _ _ _ _ _ _ _)
   | (with_reducible exact waymarkref10_Check.mono _ _ _)
   | (with_reducible exact waymarkref10_Decides.mono _ _ _ _ _ _ _ _)
   | (with_reducible exact waymarkref10_Fits.mono _ _ _ _ _ _ _ _ _ _ _ _ _ _ _ _)
   | (with_reducible exact waymarkref10_Permits.mono _ _ _ _ _ _ _ _)
   | (with_reducible exact waymarkref10_Rules.mono _ _ _)
   | (with_reducible exact LeO.refl _)
   | (with_reducible exact LeO.none _)
   | (with_reducible refine LeO.ite ?_ ?_)
   | (with_reducible refine LeO.bind ?_ (fun _ => ?_))
   | exact ih0 _ _ _ _ _ _ _ _ _ _ _ _ _ _ _ _ _
   | exact ih1 _ _ _ _ _ _ _ _ _ _ _ _ _ _ _ _ _ _
   | exact ih2 _ _ _ _ _ _ _ _ _ _ _ _ _ _ _ _ _ _ _ _
   | exact filter_Fits.mono _ _ _ _ _ _ _ _ _ _ _ _ _ _ _ _
   | exact waymarkref10_Check.mono _ _ _
   | exact waymarkref10_Decides.mono _ _ _ _ _ _ _ _
   | exact waymarkref10_Fits.mono _ _ _ _ _ _ _ _ _ _ _ _ _ _ _ _
   | exact waymarkref10_Permits.mono _ _ _ _ _ _ _ _
   | exact waymarkref10_Rules.mono _ _ _
   | exact LeO.none _
   | refine LeO.ite ?_ ?_
   | refine LeO.bind ?_ (fun _ => ?_)
theorem waymarklaw10_FilterDecides_E.mono : ∀ a0 a1 a2 a3 a4 a5 a6 a7 a8 a9 a10 a11 a12 k, LeO (waymarklaw10_FilterDecides_E.f k a0 a1 a2 a3 a4 a5 a6 a7 a8 a9 a10 a11 a12) (waymarklaw10_FilterDecides_E.f (k + 1) a0 a1 a2 a3 a4 a5 a6 a7 a8 a9 a10 a11 a12) := by
 intro a0 a1 a2 a3 a4 a5 a6 a7 a8 a9 a10 a11 a12 k
 obtain ⟨ih0, ih1, ih2⟩ := waymarklaw10_FilterDecides_E.mono_l k
 unfold waymarklaw10_FilterDecides_E.f
 repeat' first
   | (with_reducible exact ih0 _ _ _ _ _ _ _ _ _ _ _ _ _ _ _ _ _)
   | (with_reducible exact ih1 _ _ _ _ _ _ _ _ _ _ _ _ _ _ _ _ _ _)
   | (with_reducible exact ih2 _ _ _ _ _ _ _ _ _ _ _ _ _ _ _ _ _ _ _ _)
   | (with_reducible exact filter_Fits.mono _ _ _ _ _ _ _ _ _ _ _ _ _ _ _ _)
   | (with_reducible exact waymarkref10_Check.mono _ _ _)
   | (with_reducible exact waymarkref10_Decides.mono _ _ _ _ _ _ _ _)
   | (with_reducible exact waymarkref10_Fits.mono _ _ _ _ _ _ _ _ _ _ _ _ _ _ _ _)
   | (with_reducible exact waymarkref10_Permits.mono _ _ _ _ _ _ _ _)
   | (with_reducible exact waymarkref10_Rules.mono _ _ _)
   | (with_reducible exact LeO.refl _)
   | (with_reducible exact LeO.none _)
   | (with_reducible refine LeO.ite ?_ ?_)
   | (with_reducible refine LeO.bind ?_ (fun _ => ?_))
   | exact ih0 _ _ _ _ _ _ _ _ _ _ _ _ _ _ _ _ _
   | exact ih1 _ _ _ _ _ _ _ _ _ _ _ _ _ _ _ _ _ _
   | exact ih2 _ _ _ _ _ _ _ _ _ _ _ _ _ _ _ _ _ _ _ _
   | exact filter_Fits.mono _ _ _ _ _ _ _ _ _ _ _ _ _ _ _ _
   | exact waymarkref10_Check.mono _ _ _
   | exact waymarkref10_Decides.mono _ _ _ _ _ _ _ _
   | exact waymarkref10_Fits.mono _ _ _ _ _ _ _ _ _ _ _ _ _ _ _ _
   | exact waymarkref10_Permits.mono _ _ _ _ _ _ _ _
   | exact waymarkref10_Rules.mono _ _ _
   | exact LeO.none _
   | refine LeO.ite ?_ ?_
   | refine LeO.bind ?_ (fun _ => ?_)
def waymarklaw10_FilterDecides_E.T3 : Bool × List (List Nat × List Nat) := (true, [([], []), ([0], [0]), ([], []), ([], []), ([3], [3]), ([2, 4], [2, 4]), ([1, 5], [1, 5]), ([], []), ([7, 6, 5, 0, 1, 2, 3, 4, 5, 6, 7], [6, 7])])
def waymarklaw10_FilterDecides_E.B3 : List Nat := [0, 1, 0, 0, 8, 28, 63, 0, 255]
theorem waymarklaw10_FilterDecides_E.tab3 : rtab .any (opsOf Try.f3 3) = waymarklaw10_FilterDecides_E.T3 := by kernel_rfl
theorem waymarklaw10_FilterDecides_E.bits3 : waitsOk waymarklaw10_FilterDecides_E.T3.2 waymarklaw10_FilterDecides_E.B3 = true := by kernel_rfl
def waymarklaw10_FilterDecides_E.T10 : Bool × List (List Nat × List Nat) := (true, [([], []), ([], []), ([], []), ([1, 2], [1, 2]), ([3], [3]), ([0, 4], [0, 4]), ([5], [5]), ([6], [6]), ([6], [6]), ([7, 5, 0, 1, 2, 3, 4, 5, 6, 7], [7]), ([8, 9, 0, 1, 2, 3, 4, 5, 6, 7, 8, 9], [8])])
def waymarklaw10_FilterDecides_E.B10 : List Nat := [0, 0, 0, 6, 14, 31, 63, 127, 127, 255, 1023]
theorem waymarklaw10_FilterDecides_E.tab10 : rtab .any (opsOf Try.f3 10) = waymarklaw10_FilterDecides_E.T10 := by kernel_rfl
theorem waymarklaw10_FilterDecides_E.bits10 : waitsOk waymarklaw10_FilterDecides_E.T10.2 waymarklaw10_FilterDecides_E.B10 = true := by kernel_rfl
def waymarklaw10_FilterDecides_E.T11 : Bool × List (List Nat × List Nat) := (true, [([], []), ([], []), ([], []), ([1, 2], [1, 2]), ([3], [3]), ([0, 4], [0, 4]), ([5], [5]), ([6], [6]), ([6], [6]), ([7, 5, 0, 1, 2, 3, 4, 5, 6, 7], [7]), ([8, 9, 0, 1, 2, 3, 4, 5, 6, 7, 8, 9], [8])])
def waymarklaw10_FilterDecides_E.B11 : List Nat := [0, 0, 0, 6, 14, 31, 63, 127, 127, 255, 1023]
theorem waymarklaw10_FilterDecides_E.tab11 : rtab .any (opsOf Try.f3 11) = waymarklaw10_FilterDecides_E.T11 := by kernel_rfl
theorem waymarklaw10_FilterDecides_E.bits11 : waitsOk waymarklaw10_FilterDecides_E.T11.2 waymarklaw10_FilterDecides_E.B11 = true := by kernel_rfl
def waymarklaw10_FilterDecides_E.T12 : Bool × List (List Nat × List Nat) := (true, [([], []), ([], []), ([], []), ([1, 2], [1, 2]), ([3], [3]), ([0, 4], [0, 4]), ([], []), ([], []), ([], []), ([7, 8], [7, 8]), ([9], [9]), ([6, 10, 5], [6, 10]), ([5, 11], [5, 11]), ([12, 11], [12]), ([13], [13]), ([13], [13]), ([14, 15, 13], [13, 14, 15]), ([13, 16], [13, 16]), ([17, 13], [17]), ([18], [18]), ([18], [18]), ([19, 20, 18], [18, 19, 20]), ([18, 21], [18, 21])])
def waymarklaw10_FilterDecides_E.B12 : List Nat := [0, 0, 0, 6, 14, 31, 0, 0, 0, 384, 896, 2047, 4095, 8191, 16383, 16383, 65535, 131071, 262143, 524287, 524287, 2097151, 4194303]
theorem waymarklaw10_FilterDecides_E.tab12 : rtab .any (opsOf Try.f3 12) = waymarklaw10_FilterDecides_E.T12 := by kernel_rfl
theorem waymarklaw10_FilterDecides_E.bits12 : waitsOk waymarklaw10_FilterDecides_E.T12.2 waymarklaw10_FilterDecides_E.B12 = true := by kernel_rfl
def waymarklaw10_FilterDecides_E.T17 : Bool × List (List Nat × List Nat) := (true, [([], []), ([], []), ([], []), ([], []), ([2, 3], [2, 3]), ([4], [4]), ([1, 5], [1, 5]), ([0, 6], [0, 6]), ([7, 6], [7]), ([8], [8]), ([8], [8]), ([8], [8]), ([8], [8]), ([11, 12, 8], [8, 11, 12]), ([13, 8], [8, 13]), ([10, 14, 8, 8], [8, 10, 14]), ([9, 15, 8], [8, 9, 15]), ([8, 16], [8, 16])])
def waymarklaw10_FilterDecides_E.B17 : List Nat := [0, 0, 0, 0, 12, 28, 62, 127, 255, 511, 511, 511, 511, 6655, 14847, 32255, 65535, 131071]
theorem waymarklaw10_FilterDecides_E.tab17 : rtab .any (opsOf Try.f3 17) = waymarklaw10_FilterDecides_E.T17 := by kernel_rfl
theorem waymarklaw10_FilterDecides_E.bits17 : waitsOk waymarklaw10_FilterDecides_E.T17.2 waymarklaw10_FilterDecides_E.B17 = true := by kernel_rfl
set_option maxHeartbeats 8000000 in
set_option maxRecDepth 100000 in
theorem waymarklaw10_FilterDecides_E.calls (k : Nat) (a0_0 : ByteArray) (A0_1 : Option Addr) (c0_1 : Nat) (l0_1 : List (S33)) (A1 : Option Addr) (c1 : Nat) (l1 : List (S40)) (a2_0 : Bool) (a2_1 : Int) (a2_2 : Int) (a2_3 : Int) (a2_4 : Int) (a2_5 : Int) (a2_6 : Int) (a2_7 : Int) (a2_8 : Int) (a2_9 : Int) (r : Bool) (w : World) (hr0_1 : Kd.C k33 w A0_1 l0_1.length l0_1) (hc0_1 : l0_1.length ≤ c0_1) (hr1 : Kd.C k40 w A1 l1.length l1) (hc1 : l1.length ≤ c1) (h : waymarklaw10_FilterDecides_E.f k a0_0 l0_1 l1 a2_0 a2_1 a2_2 a2_3 a2_4 a2_5 a2_6 a2_7 a2_8 a2_9 = some r) :
  Calls Try.prog 3 #[.agg #[.string a0_0, .slice A0_1 l0_1.length c0_1], .slice A1 l1.length c1, .agg #[.bool a2_0, .int .i64 a2_1, .int .u32 a2_2, .int .i64 a2_3, .int .u32 a2_4, .int .i64 a2_5, .int .u32 a2_6, .int .u32 a2_7, .int .u32 a2_8, .int .u32 a2_9]] w fun e w' => e = .returned (.bool r) ∧ Below w.heap.size w w' := by
 have hu24 := Try.underlying24
 have hu33 := Try.underlying33
 have hu40 := Try.underlying40
 have HR0_1 := Aside0.mk hr0_1
 have HC0_1 := Aside0.mk hc0_1
 clear hr0_1 hc0_1
 have HR1 := Aside0.mk hr1
 have HC1 := Aside0.mk hc1
 clear hr1 hc1
 have HB := Aside0.mk (Below.refl w.heap.size w)
 have H : (if (l0_1.length : Int) > 300 then (none) else ((some (([] : List (S33)) : List (S33))).bind fun y160 => (if y160.length + l0_1.length < 2199023255552 then ((some (y160 ++ l0_1 : List (S33))).bind fun y163 => ((waymarkref10_Check.f k a0_0 l0_1).bind fun t167 => ((filter_Check.f a0_0 y163).bind fun t168 => (if t168 = t167 then (waymarklaw10_FilterDecides_E.l0 k l1 t167 0 a0_0 l0_1 a2_0 a2_1 a2_2 a2_3 a2_4 a2_5 a2_6 a2_7 a2_8 a2_9 a0_0 y163) else (none))))) else (none)))) = some r := h
 clear h
 by_cases c4 : (l0_1.length : Int) > 300
 ·rw [if_pos c4] at H
  exact absurd H (by simp)
 ·rw [if_neg c4] at H
  have c4b0 : decide (300 < (l0_1.length : Int)) = false := decide_eq_false c4
  have c4b1 : decide (300 < l0_1.length) = false := decide_eq_false (by omega)
  clear c4
  obtain ⟨y160, hy160⟩ : ∃ y_ : List (S33), y_ = (([] : List (S33))) := ⟨_, rfl⟩
  replace H : (if y160.length + l0_1.length < 2199023255552 then ((some (y160 ++ l0_1 : List (S33))).bind fun y163 => ((waymarkref10_Check.f k a0_0 l0_1).bind fun t167 => ((filter_Check.f a0_0 y163).bind fun t168 => (if t168 = t167 then (waymarklaw10_FilterDecides_E.l0 k l1 t167 0 a0_0 l0_1 a2_0 a2_1 a2_2 a2_3 a2_4 a2_5 a2_6 a2_7 a2_8 a2_9 a0_0 y163) else (none))))) else (none)) = some r := by first | (rw [hy160]; with_reducible exact H) | (have H2_ := (Option.bind_some _ _).symm.trans H; rw [hy160]; with_reducible exact H2_) | (have H2_ := (Option.bind_some _ _).symm.trans H; with_reducible exact H2_) | with_reducible exact H | (rw [hy160]; exact H) | exact H
  have Ny160 := Aside0.mk hy160
  clear hy160
  by_cases c5 : y160.length + l0_1.length < 2199023255552
  ·rw [if_pos c5] at H
   have LMc5 := Aside0.mk c5
   clear c5
   obtain ⟨y163, hy163⟩ : ∃ y_ : List (S33), y_ = (y160 ++ l0_1) := ⟨_, rfl⟩
   replace H : ((waymarkref10_Check.f k a0_0 l0_1).bind fun t167 => ((filter_Check.f a0_0 y163).bind fun t168 => (if t168 = t167 then (waymarklaw10_FilterDecides_E.l0 k l1 t167 0 a0_0 l0_1 a2_0 a2_1 a2_2 a2_3 a2_4 a2_5 a2_6 a2_7 a2_8 a2_9 a0_0 y163) else (none)))) = some r := by first | (rw [hy163]; with_reducible exact H) | (have H2_ := (Option.bind_some _ _).symm.trans H; rw [hy163]; with_reducible exact H2_) | (have H2_ := (Option.bind_some _ _).symm.trans H; with_reducible exact H2_) | with_reducible exact H | (rw [hy163]; exact H) | exact H
   have Ny163 := Aside0.mk hy163
   clear hy163
   replace H := Option.bind_eq_some_iff.mp H
   obtain ⟨t167, A60, H⟩ := H
   replace H : ((filter_Check.f a0_0 y163).bind fun t168 => (if t168 = t167 then (waymarklaw10_FilterDecides_E.l0 k l1 t167 0 a0_0 l0_1 a2_0 a2_1 a2_2 a2_3 a2_4 a2_5 a2_6 a2_7 a2_8 a2_9 a0_0 y163) else (none))) = some r := H
   have A6 := Aside0.mk A60
   clear A60
   replace H := Option.bind_eq_some_iff.mp H
   obtain ⟨t168, A70, H⟩ := H
   replace H : (if t168 = t167 then (waymarklaw10_FilterDecides_E.l0 k l1 t167 0 a0_0 l0_1 a2_0 a2_1 a2_2 a2_3 a2_4 a2_5 a2_6 a2_7 a2_8 a2_9 a0_0 y163) else (none)) = some r := H
   have A7 := Aside0.mk A70
   clear A70
   by_cases c8 : t168 = t167
   ·rw [if_pos c8] at H
    have c8b0 : (t168 == t167) = true := beq_iff_eq.mpr c8
    have c8b1 : (t168 != t167) = false := bne_eq_false_iff_eq.mpr c8
    clear c8
    have H' := Aside0.mk H
    clear H
    go_enter Try.func3, Try.ntmps3
    try go_wp2_with (first | ((with_reducible refine gate_dst (N := 3) rfl ?_); refine box_event ?hg (N := 3) ?hd (cs := #[.string a0_0, .slice A0_1 l0_1.length c0_1]) (t := 24) ?hr ?_; (case hd => rfl); (case hg => rfl); (case hr => first | (go_simp; done) | (go_simp; rfl)); intro gb158 hg w9 hbox hb; have n0_ := Aside0.mk (below_step (by repeat (first | (with_reducible first | exact HB.out | apply below_alloc | apply pw_below_drewN | apply below_drew1) | exact HB.out)) hb); have n1_ := Aside0.mk (hbox); have n2_ := Aside0.mk ((by rw [hg]; exact (below_size (by repeat (first | (with_reducible first | exact HB.out | apply below_alloc | apply pw_below_drewN | apply below_drew1) | exact HB.out))) : w.heap.size ≤ gb158)); have n3_ := Aside0.mk ((by rw [hg]; exact (below_size (by repeat (first | (with_reducible first | exact HB.out | apply below_alloc | apply pw_below_drewN | apply below_drew1) | exact HB.out))) : w.heap.size ≤ gb158)); clear HB; have HB := n0_; have BK158 := n1_; have GW158 := n2_; have GE158 := n3_; clear n0_ n1_ n2_ n3_; clear hb hbox hg) | ((with_reducible refine gate_dst (N := 5) rfl ?_); refine box_event ?hg (N := 5) ?hd (cs := #[.bool a2_0, .int .i64 a2_1, .int .u32 a2_2, .int .i64 a2_3, .int .u32 a2_4, .int .i64 a2_5, .int .u32 a2_6, .int .u32 a2_7, .int .u32 a2_8, .int .u32 a2_9]) (t := 33) ?hr ?_; (case hd => rfl); (case hg => rfl); (case hr => first | (go_simp; done) | (go_simp; rfl)); intro gb159 hg w10 hbox hb; have n0_ := Aside0.mk (blk_below (g := gb158) (o := .cells #[.string a0_0, .slice A0_1 l0_1.length c0_1] 24 (0, 0)) (by (with_reducible repeat (first | refine blk_drewN ?_ _ | refine blk_drew ?_ | refine blk_alloc ?_ _)); exact BK158.out) hb); have n1_ := Aside0.mk (below_step (by repeat (first | (with_reducible first | exact HB.out | apply below_alloc | apply pw_below_drewN | apply below_drew1 | refine below_set ?_ GE158.out) | exact HB.out)) hb); have n2_ := Aside0.mk (hbox); have n3_ := Aside0.mk ((by rw [hg]; exact (below_size (by repeat (first | (with_reducible first | exact HB.out | apply below_alloc | apply pw_below_drewN | apply below_drew1 | refine below_set ?_ GE158.out) | exact HB.out))) : w.heap.size ≤ gb159)); have n4_ := Aside0.mk ((by rw [hg]; exact (below_size (by repeat (first | (with_reducible first | exact HB.out | apply below_alloc | apply pw_below_drewN | apply below_drew1 | refine below_set ?_ GE158.out) | exact HB.out))) : w.heap.size ≤ gb159)); have n5_ := Aside0.mk ((by rw [hg]; exact Nat.ne_of_lt (blk_lt (g := gb158) (o := .cells #[.string a0_0, .slice A0_1 l0_1.length c0_1] 24 (0, 0)) (by (with_reducible repeat (first | refine blk_drewN ?_ _ | refine blk_drew ?_ | refine blk_alloc ?_ _)); exact BK158.out)) : gb158 ≠ gb159)); have n6_ := Aside0.mk ((by rw [hg]; exact Nat.ne_of_gt (blk_lt (g := gb158) (o := .cells #[.string a0_0, .slice A0_1 l0_1.length c0_1] 24 (0, 0)) (by (with_reducible repeat (first | refine blk_drewN ?_ _ | refine blk_drew ?_ | refine blk_alloc ?_ _)); exact BK158.out)) : gb159 ≠ gb158)); clear BK158; clear HB; have BK158 := n0_; have HB := n1_; have BK159 := n2_; have GW159 := n3_; have GE159 := n4_; have NB158_159 := n5_; have NB159_158 := n6_; clear n0_ n1_ n2_ n3_ n4_ n5_ n6_; clear hb hbox hg; have hnb11 := NB158_159.out; have hnc11 := NB159_158.out; have hcz12_0 : w10.cell? ⟨gb158, 0, none⟩ = some (.string a0_0) := (blk_cell BK158.out 0).trans rfl; have hcz12_1 : w10.cell? ⟨gb158, 1, none⟩ = some (.slice A0_1 l0_1.length c0_1) := (blk_cell BK158.out 1).trans rfl; have hfz12_0 := blk_frozen BK158.out 0; have hfz12_1 := blk_frozen BK158.out 1))
    have n0_ := Aside0.mk (blk_drew BK158.out)
    have n1_ := Aside0.mk (blk_drew BK159.out)
    have n2_ := Aside0.mk (below_drew1 HB.out)
    clear BK158
    clear BK159
    clear HB
    have BK158 := n0_
    have BK159 := n1_
    have HB := n2_
    clear n0_ n1_ n2_
    refine start_ (n := 9) (S := fun w' => w'.cell? ⟨gb158, 0, none⟩ = some (.string a0_0) ∧ w'.cell? ⟨gb158, 1, none⟩ = some (.slice A0_1 l0_1.length c0_1)) (ds := []) #[false, false, false, false, false, false, false, false, false] (by kernel_rfl) rfl rfl ⟨(blk_cell BK158.out 0).trans rfl, (blk_cell BK158.out 1).trans rfl⟩ (fun hHeld => ?_); refine with_tabW waymarklaw10_FilterDecides_E.tab3 waymarklaw10_FilterDecides_E.bits3 (fun HT_ HW_ => ?_)
    generalize w10.drew = w13 at BK158 BK159 HB hHeld ⊢
    refine pure_ (i := 0) (N := some 22) (v := ?_) (a' := ?_) #[true, false, false, false, false, false, false, false, false] rfl rfl (any_of HT_.out (by kernel_rfl)) (fun _ _ _ h => h) (Or.inl ⟨by rfl, ?_⟩) ?_ ?_
    rotate_left
    ·intro w'
     go_simp
     with_reducible rfl
    rotate_left
    ·simp only [Act.put, List.setIfInBounds_toArray, List.set_cons_zero, List.set_cons_succ, i64_w, i32_w]
     rfl
    refine pure_ (i := 3) (N := some 25) (v := ?_) (a' := ?_) #[true, false, false, true, false, false, false, false, false] rfl rfl (any_of HT_.out (by kernel_rfl)) (fun _ _ _ h => h) (Or.inl ⟨by rfl, ?_⟩) ?_ ?_
    rotate_left
    ·intro w'
     go_simp
     with_reducible rfl
    rotate_left
    ·simp only [Act.put, List.setIfInBounds_toArray, List.set_cons_zero, List.set_cons_succ, i64_w, i32_w]
     rfl
    refine take_ (i := 1) (N := some 23) (v := ?_) (a' := ?_) #[true, true, false, true, false, false, false, false, false] rfl rfl (take_ofW HT_.out HW_.out (by kernel_rfl)) (fun _ _ _ h => h) (Or.inl ⟨by rfl, ?_⟩) hHeld ?_ ?_
    rotate_left
    ·rintro w' ⟨s0, s1⟩
     go_simp
     with_reducible rfl
    rotate_left
    ·simp only [Act.put, List.setIfInBounds_toArray, List.set_cons_zero, List.set_cons_succ, i64_w, i32_w]
     rfl
    refine take_ (i := 4) (N := some 26) (v := ?_) (a' := ?_) #[true, true, false, true, true, false, false, false, false] rfl rfl (take_ofW HT_.out HW_.out (by kernel_rfl)) (fun _ _ _ h => h) (Or.inl ⟨by rfl, ?_⟩) hHeld ?_ ?_
    rotate_left
    ·rintro w' ⟨s0, s1⟩
     go_simp
     with_reducible rfl
    rotate_left
    ·simp only [Act.put, List.setIfInBounds_toArray, List.set_cons_zero, List.set_cons_succ, i64_w, i32_w]
     rfl
    refine join_ (σ := Value × Value × Nat) 1 #[true, true, true, true, true, true, true, true, false] (fun s_ => [(24, s_.1), (27, s_.2.1), (7, .pointer (some ⟨s_.2.2, 0, none⟩)), (28, .agg #[.string a0_0, s_.2.1])]) (fun s_ w' => (w'.cell? ⟨gb158, 0, none⟩ = some (.string a0_0) ∧ w'.cell? ⟨gb158, 1, none⟩ = some (.slice A0_1 l0_1.length c0_1)) ∧ (Kd.R k33 33 w' w.heap.size (fun k_ => k_ ≠ gb159) s_.2.1 y163) ∧ (w'.heap[gb158]? = some (.cells #[.string a0_0, .slice A0_1 l0_1.length c0_1] 24 (0, 0))) ∧ (w'.heap[gb159]? = some (.cells #[.bool a2_0, .int .i64 a2_1, .int .u32 a2_2, .int .i64 a2_3, .int .u32 a2_4, .int .i64 a2_5, .int .u32 a2_6, .int .u32 a2_7, .int .u32 a2_8, .int .u32 a2_9] 33 (0, 0))) ∧ (w'.heap[s_.2.2]? = some (.cells #[.string (⟨#[]⟩ : ByteArray), .slice none 0 0] 24 (0, 0))) ∧ (w.heap.size ≤ s_.2.2) ∧ (w.heap.size ≤ s_.2.2) ∧ (gb158 ≠ s_.2.2) ∧ (s_.2.2 ≠ gb158) ∧ (gb159 ≠ s_.2.2) ∧ (s_.2.2 ≠ gb159) ∧ (Below w.heap.size w w')) ?_ ?_
    rotate_left
    ·intro hCont
     refine two_ (i := 2) (j := 7) (Ni := some 24) (Nj := some 7) #[true, true, true, true, true, false, false, false, false] #[true, true, false, true, true, false, false, true, false] rfl rfl rfl rfl (two_of HT_.out (by kernel_rfl)) (by decide) (by decide) (fun K hK => ?_) (fun K hK => ?_)
     ·skip
      refine Kd.R_lit_step k33 _ 33 ?hg (N := 24) ?hd (xs := ([] : List (S33))) (inner := []) (ok := fun _ => True) (okp := fun _ => True) ?hr ?hp (fun _ hk => hk) trivial (Below.refl _ _) (Nat.le_refl _) (by simp) ?_; (case hd => rfl); (case hg => rfl); (case hr => first | (go_simp; done) | (go_simp; rfl)); (case hp => exact (Reps.none _ _))
      intro v161 w14 ho15 hb hg_ hnew_
      clear hg_ hnew_
      (first | rw [← Ny160.out] at ho15 | (simp only [Int.reduceToNat] at ho15; rw [← Ny160.out] at ho15))
      have n0_ := Aside0.mk (Kd.R_lower (Kd.R_newB ho15 (g := gb159) (o := .cells #[.bool a2_0, .int .i64 a2_1, .int .u32 a2_2, .int .i64 a2_3, .int .u32 a2_4, .int .i64 a2_5, .int .u32 a2_6, .int .u32 a2_7, .int .u32 a2_8, .int .u32 a2_9] 33 (0, 0)) (by (with_reducible repeat (first | refine blk_drewN ?_ _ | refine blk_drew ?_ | refine blk_alloc ?_ _)); exact BK159.out)) (below_size (by repeat (first | (with_reducible first | exact HB.out | apply below_alloc | apply pw_below_drewN | apply below_drew1 | refine below_set ?_ GE158.out | refine below_set ?_ GE159.out) | exact HB.out))))
      have n1_ := Aside0.mk (blk_below (g := gb158) (o := .cells #[.string a0_0, .slice A0_1 l0_1.length c0_1] 24 (0, 0)) (by (with_reducible repeat (first | refine blk_drewN ?_ _ | refine blk_drew ?_ | refine blk_alloc ?_ _)); exact BK158.out) hb)
      have n2_ := Aside0.mk (blk_below (g := gb159) (o := .cells #[.bool a2_0, .int .i64 a2_1, .int .u32 a2_2, .int .i64 a2_3, .int .u32 a2_4, .int .i64 a2_5, .int .u32 a2_6, .int .u32 a2_7, .int .u32 a2_8, .int .u32 a2_9] 33 (0, 0)) (by (with_reducible repeat (first | refine blk_drewN ?_ _ | refine blk_drew ?_ | refine blk_alloc ?_ _)); exact BK159.out) hb)
      have n3_ := Aside0.mk (below_step (by repeat (first | (with_reducible first | exact HB.out | apply below_alloc | apply pw_below_drewN | apply below_drew1 | refine below_set ?_ GE158.out | refine below_set ?_ GE159.out) | exact HB.out)) hb)
      clear BK158
      clear BK159
      clear HB
      have HO162 := n0_
      have BK158 := n1_
      have BK159 := n2_
      have HB := n3_
      clear n0_ n1_ n2_ n3_
      clear hb ho15
      refine hK.out _ _ ⟨(blk_cell BK158.out 0).trans rfl, (blk_cell BK158.out 1).trans rfl⟩ (fun hHeld => ?_)
      clear hK K
      refine norm_ (a' := ?_) ?_ ?_
      rotate_left
      ·show Act.put _ (some 24) _ = _
       simp only [Act.put, List.setIfInBounds_toArray, List.set_cons_zero, List.set_cons_succ, i64_w, i32_w]
       rfl
      refine two_ (i := 5) (j := 7) (Ni := some 27) (Nj := some 7) #[true, true, true, true, true, true, false, false, false] #[true, true, true, true, true, false, false, true, false] rfl rfl rfl rfl (two_of HT_.out (by kernel_rfl)) (by decide) (by decide) (fun K hK => ?_) (fun K hK => ?_)
      ·skip
       refine Kd.R_append_rows_step k33 (w0 := w) w.heap.size (by rfl) (.tmp 24) (.tmp 26) 22 33 (.agg #[(.bool false), (.int .i64 0), (.int .u32 0), (.int .i64 0), (.int .u32 0), (.int .i64 0), (.int .u32 0), (.int .u32 0), (.int .u32 0), (.int .u32 0)]) 64 rfl Try.underlying22 info33 rfl (by decide) (by omega) v161 y160 l0_1 _ _ _ (fun k_ => k_ ≠ gb159) (fun _ => False) rfl rfl ?aO ?aR (fun _ _ h => h) (fun _ h => h.elim) ?aF ?aB ?aS ?aL ?_
       (case aR => repeat (first | exact (Kd.C_below HR0_1.out HB.out) | (with_reducible refine Kd.C_alloc ?_ _) | (with_reducible refine Kd.C_drewN ?_ _) | (with_reducible refine Kd.C_drew ?_)))
       (case aB => exact (by repeat (first | (with_reducible first | exact HB.out | apply below_alloc | apply pw_below_drewN | apply below_drew1 | refine below_set ?_ GE158.out | refine below_set ?_ GE159.out) | exact HB.out)))
       (case aF => exact (fun k_ hk => Kd.freshB (g := gb159) (o := .cells #[.bool a2_0, .int .i64 a2_1, .int .u32 a2_2, .int .i64 a2_3, .int .u32 a2_4, .int .i64 a2_5, .int .u32 a2_6, .int .u32 a2_7, .int .u32 a2_8, .int .u32 a2_9] 33 (0, 0)) (by (with_reducible repeat (first | refine blk_drewN ?_ _ | refine blk_drew ?_ | refine blk_alloc ?_ _)); exact BK159.out) k_ hk))
       (case aO => exact (by (with_reducible repeat (first | apply Kd.R_alloc | apply Kd.R_drewN | apply Kd.R_drew)); exact Kd.R_mono HO162.out (fun _ hk => hk.2)))
       (case aS => exact (below_size (by repeat (first | (with_reducible first | exact HB.out | apply below_alloc | apply pw_below_drewN | apply below_drew1 | refine below_set ?_ GE158.out | refine below_set ?_ GE159.out) | exact HB.out))))
       (case aL => have := LMc5.out; omega)
       intro v164 w16 ho hb hg hat
       rw [← Ny163.out] at ho
       have n0_ := Aside0.mk (blk_grown (g := gb158) (o := .cells #[.string a0_0, .slice A0_1 l0_1.length c0_1] 24 (0, 0)) (by (with_reducible repeat (first | refine blk_drewN ?_ _ | refine blk_drew ?_ | refine blk_alloc ?_ _)); exact BK158.out) hg (Kd.R_ne HO162.out BK158.out (by decide)))
       have n1_ := Aside0.mk (blk_grown (g := gb159) (o := .cells #[.bool a2_0, .int .i64 a2_1, .int .u32 a2_2, .int .i64 a2_3, .int .u32 a2_4, .int .i64 a2_5, .int .u32 a2_6, .int .u32 a2_7, .int .u32 a2_8, .int .u32 a2_9] 33 (0, 0)) (by (with_reducible repeat (first | refine blk_drewN ?_ _ | refine blk_drew ?_ | refine blk_alloc ?_ _)); exact BK159.out) hg (Kd.R_away HO162.out (fun _ hk => hk.2)))
       have n2_ := Aside0.mk (hb)
       have n3_ := Aside0.mk (ho)
       clear BK158
       clear BK159
       clear HB
       clear HO162
       have BK158 := n0_
       have BK159 := n1_
       have HB := n2_
       have HO165 := n3_
       clear n0_ n1_ n2_ n3_
       clear ho hb hg hat
       obtain ⟨Ao17, co17, eo17⟩ := Kd.R_slice HO165.out
       (first | subst eo17 | (injection eo17 with f1_ f2_ f3_; have f4_ := f1_.symm; have f5_ := f3_.symm; clear f1_ f2_ f3_; subst f4_; subst f5_))
       refine hK.out _ _ ⟨(blk_cell BK158.out 0).trans rfl, (blk_cell BK158.out 1).trans rfl⟩ (fun hHeld => ?_)
       clear hK K
       refine norm_ (a' := ?_) ?_ ?_
       rotate_left
       ·show Act.put _ (some 27) _ = _
        simp only [Act.put, List.setIfInBounds_toArray, List.set_cons_zero, List.set_cons_succ, i64_w, i32_w]
        rfl
       refine pure_ (i := 6) (N := some 28) (v := ?_) (a' := ?_) #[true, true, true, true, true, true, true, false, false] rfl rfl (any_of HT_.out (by kernel_rfl)) (fun _ _ _ h => h) (Or.inl ⟨by rfl, ?_⟩) ?_ ?_
       rotate_left
       ·intro w'
        go_simp
        with_reducible rfl
       rotate_left
       ·simp only [Act.put, List.setIfInBounds_toArray, List.set_cons_zero, List.set_cons_succ, i64_w, i32_w]
        rfl
       refine one_ (i := 7) (N := some 7) #[true, true, true, true, true, true, true, true, false] rfl rfl (one_of HT_.out (by kernel_rfl)) (by decide) (fun K hK => ?_)
       refine box_step ?hg (N := 7) ?hd (cs := #[.string (⟨#[]⟩ : ByteArray), .slice none 0 0]) (t := 24) ?hr ?_; (case hd => rfl); (case hg => rfl); (case hr => first | (go_simp; done) | (go_simp; rfl))
       intro gb166 hg w18 hbox hb
       have n0_ := Aside0.mk (Kd.R_below (by (with_reducible repeat (first | apply Kd.R_alloc | apply Kd.R_drewN | apply Kd.R_drew)); exact HO165.out) hb)
       have n1_ := Aside0.mk (blk_below (g := gb158) (o := .cells #[.string a0_0, .slice A0_1 l0_1.length c0_1] 24 (0, 0)) (by (with_reducible repeat (first | refine blk_drewN ?_ _ | refine blk_drew ?_ | refine blk_alloc ?_ _)); exact BK158.out) hb)
       have n2_ := Aside0.mk (blk_below (g := gb159) (o := .cells #[.bool a2_0, .int .i64 a2_1, .int .u32 a2_2, .int .i64 a2_3, .int .u32 a2_4, .int .i64 a2_5, .int .u32 a2_6, .int .u32 a2_7, .int .u32 a2_8, .int .u32 a2_9] 33 (0, 0)) (by (with_reducible repeat (first | refine blk_drewN ?_ _ | refine blk_drew ?_ | refine blk_alloc ?_ _)); exact BK159.out) hb)
       have n3_ := Aside0.mk (below_step (by repeat (first | (with_reducible first | exact HB.out | apply below_alloc | apply pw_below_drewN | apply below_drew1 | refine below_set ?_ GE158.out | refine below_set ?_ GE159.out) | exact HB.out)) hb)
       have n4_ := Aside0.mk (hbox)
       have n5_ := Aside0.mk ((by rw [hg]; exact (below_size (by repeat (first | (with_reducible first | exact HB.out | apply below_alloc | apply pw_below_drewN | apply below_drew1 | refine below_set ?_ GE158.out | refine below_set ?_ GE159.out) | exact HB.out))) : w.heap.size ≤ gb166))
       have n6_ := Aside0.mk ((by rw [hg]; exact (below_size (by repeat (first | (with_reducible first | exact HB.out | apply below_alloc | apply pw_below_drewN | apply below_drew1 | refine below_set ?_ GE158.out | refine below_set ?_ GE159.out) | exact HB.out))) : w.heap.size ≤ gb166))
       have n7_ := Aside0.mk ((by rw [hg]; exact Nat.ne_of_lt (blk_lt (g := gb158) (o := .cells #[.string a0_0, .slice A0_1 l0_1.length c0_1] 24 (0, 0)) (by (with_reducible repeat (first | refine blk_drewN ?_ _ | refine blk_drew ?_ | refine blk_alloc ?_ _)); exact BK158.out)) : gb158 ≠ gb166))
       have n8_ := Aside0.mk ((by rw [hg]; exact Nat.ne_of_gt (blk_lt (g := gb158) (o := .cells #[.string a0_0, .slice A0_1 l0_1.length c0_1] 24 (0, 0)) (by (with_reducible repeat (first | refine blk_drewN ?_ _ | refine blk_drew ?_ | refine blk_alloc ?_ _)); exact BK158.out)) : gb166 ≠ gb158))
       have n9_ := Aside0.mk ((by rw [hg]; exact Nat.ne_of_lt (blk_lt (g := gb159) (o := .cells #[.bool a2_0, .int .i64 a2_1, .int .u32 a2_2, .int .i64 a2_3, .int .u32 a2_4, .int .i64 a2_5, .int .u32 a2_6, .int .u32 a2_7, .int .u32 a2_8, .int .u32 a2_9] 33 (0, 0)) (by (with_reducible repeat (first | refine blk_drewN ?_ _ | refine blk_drew ?_ | refine blk_alloc ?_ _)); exact BK159.out)) : gb159 ≠ gb166))
       have n10_ := Aside0.mk ((by rw [hg]; exact Nat.ne_of_gt (blk_lt (g := gb159) (o := .cells #[.bool a2_0, .int .i64 a2_1, .int .u32 a2_2, .int .i64 a2_3, .int .u32 a2_4, .int .i64 a2_5, .int .u32 a2_6, .int .u32 a2_7, .int .u32 a2_8, .int .u32 a2_9] 33 (0, 0)) (by (with_reducible repeat (first | refine blk_drewN ?_ _ | refine blk_drew ?_ | refine blk_alloc ?_ _)); exact BK159.out)) : gb166 ≠ gb159))
       clear HO165
       clear BK158
       clear BK159
       clear HB
       have HO165 := n0_
       have BK158 := n1_
       have BK159 := n2_
       have HB := n3_
       have BK166 := n4_
       have GW166 := n5_
       have GE166 := n6_
       have NB158_166 := n7_
       have NB166_158 := n8_
       have NB159_166 := n9_
       have NB166_159 := n10_
       clear n0_ n1_ n2_ n3_ n4_ n5_ n6_ n7_ n8_ n9_ n10_
       clear hb hbox hg
       refine hK.out _ _ ⟨(blk_cell BK158.out 0).trans rfl, (blk_cell BK158.out 1).trans rfl⟩ (fun hHeld => ?_)
       clear hK K
       refine norm_ (a' := ?_) ?_ ?_
       rotate_left
       ·show Act.put _ (some 7) _ = _
        simp only [Act.put, List.setIfInBounds_toArray, List.set_cons_zero, List.set_cons_succ, i64_w, i32_w]
        rfl
       exact norm_ (by simp only [putAll, Act.put, List.setIfInBounds_toArray, List.set_cons_zero, List.set_cons_succ]) (hCont (v161, .slice Ao17 y163.length co17, gb166) _ ⟨hHeld, (by (with_reducible repeat (first | apply Kd.R_alloc | apply Kd.R_drewN | apply Kd.R_drew)); exact HO165.out), (by (with_reducible repeat (first | refine blk_drewN ?_ _ | refine blk_drew ?_ | refine blk_alloc ?_ _)); exact BK158.out), (by (with_reducible repeat (first | refine blk_drewN ?_ _ | refine blk_drew ?_ | refine blk_alloc ?_ _)); exact BK159.out), (by (with_reducible repeat (first | refine blk_drewN ?_ _ | refine blk_drew ?_ | refine blk_alloc ?_ _)); exact BK166.out), GW166.out, GE166.out, NB158_166.out, NB166_158.out, NB159_166.out, NB166_159.out, (by repeat (first | (with_reducible first | exact HB.out | apply below_alloc | apply pw_below_drewN | apply below_drew1 | refine below_set ?_ GE158.out | refine below_set ?_ GE159.out | refine below_set ?_ GE166.out) | exact HB.out))⟩)
      ·skip
       refine box_step ?hg (N := 7) ?hd (cs := #[.string (⟨#[]⟩ : ByteArray), .slice none 0 0]) (t := 24) ?hr ?_; (case hd => rfl); (case hg => rfl); (case hr => first | (go_simp; done) | (go_simp; rfl))
       intro gb166 hg w16 hbox hb
       have n0_ := Aside0.mk (Kd.R_below (by (with_reducible repeat (first | apply Kd.R_alloc | apply Kd.R_drewN | apply Kd.R_drew)); exact HO162.out) hb)
       have n1_ := Aside0.mk (blk_below (g := gb158) (o := .cells #[.string a0_0, .slice A0_1 l0_1.length c0_1] 24 (0, 0)) (by (with_reducible repeat (first | refine blk_drewN ?_ _ | refine blk_drew ?_ | refine blk_alloc ?_ _)); exact BK158.out) hb)
       have n2_ := Aside0.mk (blk_below (g := gb159) (o := .cells #[.bool a2_0, .int .i64 a2_1, .int .u32 a2_2, .int .i64 a2_3, .int .u32 a2_4, .int .i64 a2_5, .int .u32 a2_6, .int .u32 a2_7, .int .u32 a2_8, .int .u32 a2_9] 33 (0, 0)) (by (with_reducible repeat (first | refine blk_drewN ?_ _ | refine blk_drew ?_ | refine blk_alloc ?_ _)); exact BK159.out) hb)
       have n3_ := Aside0.mk (below_step (by repeat (first | (with_reducible first | exact HB.out | apply below_alloc | apply pw_below_drewN | apply below_drew1 | refine below_set ?_ GE158.out | refine below_set ?_ GE159.out) | exact HB.out)) hb)
       have n4_ := Aside0.mk (hbox)
       have n5_ := Aside0.mk ((by rw [hg]; exact (below_size (by repeat (first | (with_reducible first | exact HB.out | apply below_alloc | apply pw_below_drewN | apply below_drew1 | refine below_set ?_ GE158.out | refine below_set ?_ GE159.out) | exact HB.out))) : w.heap.size ≤ gb166))
       have n6_ := Aside0.mk ((by rw [hg]; exact (below_size (by repeat (first | (with_reducible first | exact HB.out | apply below_alloc | apply pw_below_drewN | apply below_drew1 | refine below_set ?_ GE158.out | refine below_set ?_ GE159.out) | exact HB.out))) : w.heap.size ≤ gb166))
       have n7_ := Aside0.mk ((by rw [hg]; exact Nat.ne_of_lt (blk_lt (g := gb158) (o := .cells #[.string a0_0, .slice A0_1 l0_1.length c0_1] 24 (0, 0)) (by (with_reducible repeat (first | refine blk_drewN ?_ _ | refine blk_drew ?_ | refine blk_alloc ?_ _)); exact BK158.out)) : gb158 ≠ gb166))
       have n8_ := Aside0.mk ((by rw [hg]; exact Nat.ne_of_gt (blk_lt (g := gb158) (o := .cells #[.string a0_0, .slice A0_1 l0_1.length c0_1] 24 (0, 0)) (by (with_reducible repeat (first | refine blk_drewN ?_ _ | refine blk_drew ?_ | refine blk_alloc ?_ _)); exact BK158.out)) : gb166 ≠ gb158))
       have n9_ := Aside0.mk ((by rw [hg]; exact Nat.ne_of_lt (blk_lt (g := gb159) (o := .cells #[.bool a2_0, .int .i64 a2_1, .int .u32 a2_2, .int .i64 a2_3, .int .u32 a2_4, .int .i64 a2_5, .int .u32 a2_6, .int .u32 a2_7, .int .u32 a2_8, .int .u32 a2_9] 33 (0, 0)) (by (with_reducible repeat (first | refine blk_drewN ?_ _ | refine blk_drew ?_ | refine blk_alloc ?_ _)); exact BK159.out)) : gb159 ≠ gb166))
       have n10_ := Aside0.mk ((by rw [hg]; exact Nat.ne_of_gt (blk_lt (g := gb159) (o := .cells #[.bool a2_0, .int .i64 a2_1, .int .u32 a2_2, .int .i64 a2_3, .int .u32 a2_4, .int .i64 a2_5, .int .u32 a2_6, .int .u32 a2_7, .int .u32 a2_8, .int .u32 a2_9] 33 (0, 0)) (by (with_reducible repeat (first | refine blk_drewN ?_ _ | refine blk_drew ?_ | refine blk_alloc ?_ _)); exact BK159.out)) : gb166 ≠ gb159))
       clear HO162
       clear BK158
       clear BK159
       clear HB
       have HO162 := n0_
       have BK158 := n1_
       have BK159 := n2_
       have HB := n3_
       have BK166 := n4_
       have GW166 := n5_
       have GE166 := n6_
       have NB158_166 := n7_
       have NB166_158 := n8_
       have NB159_166 := n9_
       have NB166_159 := n10_
       clear n0_ n1_ n2_ n3_ n4_ n5_ n6_ n7_ n8_ n9_ n10_
       clear hb hbox hg
       refine hK.out _ _ ⟨(blk_cell BK158.out 0).trans rfl, (blk_cell BK158.out 1).trans rfl⟩ (fun hHeld => ?_)
       clear hK K
       refine norm_ (a' := ?_) ?_ ?_
       rotate_left
       ·show Act.put _ (some 7) _ = _
        simp only [Act.put, List.setIfInBounds_toArray, List.set_cons_zero, List.set_cons_succ, i64_w, i32_w]
        rfl
       refine one_ (i := 5) (N := some 27) #[true, true, true, true, true, true, false, true, false] rfl rfl (one_of HT_.out (by kernel_rfl)) (by decide) (fun K hK => ?_)
       refine Kd.R_append_rows_step k33 (w0 := w) w.heap.size (by rfl) (.tmp 24) (.tmp 26) 22 33 (.agg #[(.bool false), (.int .i64 0), (.int .u32 0), (.int .i64 0), (.int .u32 0), (.int .i64 0), (.int .u32 0), (.int .u32 0), (.int .u32 0), (.int .u32 0)]) 64 rfl Try.underlying22 info33 rfl (by decide) (by omega) v161 y160 l0_1 _ _ _ (fun k_ => k_ ≠ gb159) (fun _ => False) rfl rfl ?aO ?aR (fun _ _ h => h) (fun _ h => h.elim) ?aF ?aB ?aS ?aL ?_
       (case aR => repeat (first | exact (Kd.C_below HR0_1.out HB.out) | (with_reducible refine Kd.C_alloc ?_ _) | (with_reducible refine Kd.C_drewN ?_ _) | (with_reducible refine Kd.C_drew ?_)))
       (case aB => exact (by repeat (first | (with_reducible first | exact HB.out | apply below_alloc | apply pw_below_drewN | apply below_drew1 | refine below_set ?_ GE158.out | refine below_set ?_ GE159.out | refine below_set ?_ GE166.out) | exact HB.out)))
       (case aF => exact (fun k_ hk => Kd.freshB (g := gb159) (o := .cells #[.bool a2_0, .int .i64 a2_1, .int .u32 a2_2, .int .i64 a2_3, .int .u32 a2_4, .int .i64 a2_5, .int .u32 a2_6, .int .u32 a2_7, .int .u32 a2_8, .int .u32 a2_9] 33 (0, 0)) (by (with_reducible repeat (first | refine blk_drewN ?_ _ | refine blk_drew ?_ | refine blk_alloc ?_ _)); exact BK159.out) k_ hk))
       (case aO => exact (by (with_reducible repeat (first | apply Kd.R_alloc | apply Kd.R_drewN | apply Kd.R_drew)); exact Kd.R_mono HO162.out (fun _ hk => hk.2)))
       (case aS => exact (below_size (by repeat (first | (with_reducible first | exact HB.out | apply below_alloc | apply pw_below_drewN | apply below_drew1 | refine below_set ?_ GE158.out | refine below_set ?_ GE159.out | refine below_set ?_ GE166.out) | exact HB.out))))
       (case aL => have := LMc5.out; omega)
       intro v164 w17 ho hb hg hat
       rw [← Ny163.out] at ho
       have n0_ := Aside0.mk (blk_grown (g := gb158) (o := .cells #[.string a0_0, .slice A0_1 l0_1.length c0_1] 24 (0, 0)) (by (with_reducible repeat (first | refine blk_drewN ?_ _ | refine blk_drew ?_ | refine blk_alloc ?_ _)); exact BK158.out) hg (Kd.R_ne HO162.out BK158.out (by decide)))
       have n1_ := Aside0.mk (blk_grown (g := gb159) (o := .cells #[.bool a2_0, .int .i64 a2_1, .int .u32 a2_2, .int .i64 a2_3, .int .u32 a2_4, .int .i64 a2_5, .int .u32 a2_6, .int .u32 a2_7, .int .u32 a2_8, .int .u32 a2_9] 33 (0, 0)) (by (with_reducible repeat (first | refine blk_drewN ?_ _ | refine blk_drew ?_ | refine blk_alloc ?_ _)); exact BK159.out) hg (Kd.R_away HO162.out (fun _ hk => hk.2)))
       have n2_ := Aside0.mk (blk_grown (g := gb166) (o := .cells #[.string (⟨#[]⟩ : ByteArray), .slice none 0 0] 24 (0, 0)) (by (with_reducible repeat (first | refine blk_drewN ?_ _ | refine blk_drew ?_ | refine blk_alloc ?_ _)); exact BK166.out) hg (Kd.R_ne HO162.out BK166.out (by decide)))
       have n3_ := Aside0.mk (hb)
       have n4_ := Aside0.mk (ho)
       clear BK158
       clear BK159
       clear BK166
       clear HB
       clear HO162
       have BK158 := n0_
       have BK159 := n1_
       have BK166 := n2_
       have HB := n3_
       have HO165 := n4_
       clear n0_ n1_ n2_ n3_ n4_
       clear ho hb hg hat
       obtain ⟨Ao18, co18, eo18⟩ := Kd.R_slice HO165.out
       (first | subst eo18 | (injection eo18 with f1_ f2_ f3_; have f4_ := f1_.symm; have f5_ := f3_.symm; clear f1_ f2_ f3_; subst f4_; subst f5_))
       refine hK.out _ _ ⟨(blk_cell BK158.out 0).trans rfl, (blk_cell BK158.out 1).trans rfl⟩ (fun hHeld => ?_)
       clear hK K
       refine norm_ (a' := ?_) ?_ ?_
       rotate_left
       ·show Act.put _ (some 27) _ = _
        simp only [Act.put, List.setIfInBounds_toArray, List.set_cons_zero, List.set_cons_succ, i64_w, i32_w]
        rfl
       refine pure_ (i := 6) (N := some 28) (v := ?_) (a' := ?_) #[true, true, true, true, true, true, true, true, false] rfl rfl (any_of HT_.out (by kernel_rfl)) (fun _ _ _ h => h) (Or.inl ⟨by rfl, ?_⟩) ?_ ?_
       rotate_left
       ·intro w'
        go_simp
        with_reducible rfl
       rotate_left
       ·simp only [Act.put, List.setIfInBounds_toArray, List.set_cons_zero, List.set_cons_succ, i64_w, i32_w]
        rfl
       exact norm_ (by simp only [putAll, Act.put, List.setIfInBounds_toArray, List.set_cons_zero, List.set_cons_succ]) (hCont (v161, .slice Ao18 y163.length co18, gb166) _ ⟨hHeld, (by (with_reducible repeat (first | apply Kd.R_alloc | apply Kd.R_drewN | apply Kd.R_drew)); exact HO165.out), (by (with_reducible repeat (first | refine blk_drewN ?_ _ | refine blk_drew ?_ | refine blk_alloc ?_ _)); exact BK158.out), (by (with_reducible repeat (first | refine blk_drewN ?_ _ | refine blk_drew ?_ | refine blk_alloc ?_ _)); exact BK159.out), (by (with_reducible repeat (first | refine blk_drewN ?_ _ | refine blk_drew ?_ | refine blk_alloc ?_ _)); exact BK166.out), GW166.out, GE166.out, NB158_166.out, NB166_158.out, NB159_166.out, NB166_159.out, (by repeat (first | (with_reducible first | exact HB.out | apply below_alloc | apply pw_below_drewN | apply below_drew1 | refine below_set ?_ GE158.out | refine below_set ?_ GE159.out | refine below_set ?_ GE166.out) | exact HB.out))⟩)
     ·skip
      refine box_step ?hg (N := 7) ?hd (cs := #[.string (⟨#[]⟩ : ByteArray), .slice none 0 0]) (t := 24) ?hr ?_; (case hd => rfl); (case hg => rfl); (case hr => first | (go_simp; done) | (go_simp; rfl))
      intro gb166 hg w14 hbox hb
      have n0_ := Aside0.mk (blk_below (g := gb158) (o := .cells #[.string a0_0, .slice A0_1 l0_1.length c0_1] 24 (0, 0)) (by (with_reducible repeat (first | refine blk_drewN ?_ _ | refine blk_drew ?_ | refine blk_alloc ?_ _)); exact BK158.out) hb)
      have n1_ := Aside0.mk (blk_below (g := gb159) (o := .cells #[.bool a2_0, .int .i64 a2_1, .int .u32 a2_2, .int .i64 a2_3, .int .u32 a2_4, .int .i64 a2_5, .int .u32 a2_6, .int .u32 a2_7, .int .u32 a2_8, .int .u32 a2_9] 33 (0, 0)) (by (with_reducible repeat (first | refine blk_drewN ?_ _ | refine blk_drew ?_ | refine blk_alloc ?_ _)); exact BK159.out) hb)
      have n2_ := Aside0.mk (below_step (by repeat (first | (with_reducible first | exact HB.out | apply below_alloc | apply pw_below_drewN | apply below_drew1 | refine below_set ?_ GE158.out | refine below_set ?_ GE159.out) | exact HB.out)) hb)
      have n3_ := Aside0.mk (hbox)
      have n4_ := Aside0.mk ((by rw [hg]; exact (below_size (by repeat (first | (with_reducible first | exact HB.out | apply below_alloc | apply pw_below_drewN | apply below_drew1 | refine below_set ?_ GE158.out | refine below_set ?_ GE159.out) | exact HB.out))) : w.heap.size ≤ gb166))
      have n5_ := Aside0.mk ((by rw [hg]; exact (below_size (by repeat (first | (with_reducible first | exact HB.out | apply below_alloc | apply pw_below_drewN | apply below_drew1 | refine below_set ?_ GE158.out | refine below_set ?_ GE159.out) | exact HB.out))) : w.heap.size ≤ gb166))
      have n6_ := Aside0.mk ((by rw [hg]; exact Nat.ne_of_lt (blk_lt (g := gb158) (o := .cells #[.string a0_0, .slice A0_1 l0_1.length c0_1] 24 (0, 0)) (by (with_reducible repeat (first | refine blk_drewN ?_ _ | refine blk_drew ?_ | refine blk_alloc ?_ _)); exact BK158.out)) : gb158 ≠ gb166))
      have n7_ := Aside0.mk ((by rw [hg]; exact Nat.ne_of_gt (blk_lt (g := gb158) (o := .cells #[.string a0_0, .slice A0_1 l0_1.length c0_1] 24 (0, 0)) (by (with_reducible repeat (first | refine blk_drewN ?_ _ | refine blk_drew ?_ | refine blk_alloc ?_ _)); exact BK158.out)) : gb166 ≠ gb158))
      have n8_ := Aside0.mk ((by rw [hg]; exact Nat.ne_of_lt (blk_lt (g := gb159) (o := .cells #[.bool a2_0, .int .i64 a2_1, .int .u32 a2_2, .int .i64 a2_3, .int .u32 a2_4, .int .i64 a2_5, .int .u32 a2_6, .int .u32 a2_7, .int .u32 a2_8, .int .u32 a2_9] 33 (0, 0)) (by (with_reducible repeat (first | refine blk_drewN ?_ _ | refine blk_drew ?_ | refine blk_alloc ?_ _)); exact BK159.out)) : gb159 ≠ gb166))
      have n9_ := Aside0.mk ((by rw [hg]; exact Nat.ne_of_gt (blk_lt (g := gb159) (o := .cells #[.bool a2_0, .int .i64 a2_1, .int .u32 a2_2, .int .i64 a2_3, .int .u32 a2_4, .int .i64 a2_5, .int .u32 a2_6, .int .u32 a2_7, .int .u32 a2_8, .int .u32 a2_9] 33 (0, 0)) (by (with_reducible repeat (first | refine blk_drewN ?_ _ | refine blk_drew ?_ | refine blk_alloc ?_ _)); exact BK159.out)) : gb166 ≠ gb159))
      clear BK158
      clear BK159
      clear HB
      have BK158 := n0_
      have BK159 := n1_
      have HB := n2_
      have BK166 := n3_
      have GW166 := n4_
      have GE166 := n5_
      have NB158_166 := n6_
      have NB166_158 := n7_
      have NB159_166 := n8_
      have NB166_159 := n9_
      clear n0_ n1_ n2_ n3_ n4_ n5_ n6_ n7_ n8_ n9_
      clear hb hbox hg
      refine hK.out _ _ ⟨(blk_cell BK158.out 0).trans rfl, (blk_cell BK158.out 1).trans rfl⟩ (fun hHeld => ?_)
      clear hK K
      refine norm_ (a' := ?_) ?_ ?_
      rotate_left
      ·show Act.put _ (some 7) _ = _
       simp only [Act.put, List.setIfInBounds_toArray, List.set_cons_zero, List.set_cons_succ, i64_w, i32_w]
       rfl
      refine one_ (i := 2) (N := some 24) #[true, true, true, true, true, false, false, true, false] rfl rfl (one_of HT_.out (by kernel_rfl)) (by decide) (fun K hK => ?_)
      refine Kd.R_lit_step k33 _ 33 ?hg (N := 24) ?hd (xs := ([] : List (S33))) (inner := []) (ok := fun _ => True) (okp := fun _ => True) ?hr ?hp (fun _ hk => hk) trivial (Below.refl _ _) (Nat.le_refl _) (by simp) ?_; (case hd => rfl); (case hg => rfl); (case hr => first | (go_simp; done) | (go_simp; rfl)); (case hp => exact (Reps.none _ _))
      intro v161 w15 ho16 hb hg_ hnew_
      clear hg_ hnew_
      (first | rw [← Ny160.out] at ho16 | (simp only [Int.reduceToNat] at ho16; rw [← Ny160.out] at ho16))
      have n0_ := Aside0.mk (Kd.R_lower (Kd.R_newB ho16 (g := gb159) (o := .cells #[.bool a2_0, .int .i64 a2_1, .int .u32 a2_2, .int .i64 a2_3, .int .u32 a2_4, .int .i64 a2_5, .int .u32 a2_6, .int .u32 a2_7, .int .u32 a2_8, .int .u32 a2_9] 33 (0, 0)) (by (with_reducible repeat (first | refine blk_drewN ?_ _ | refine blk_drew ?_ | refine blk_alloc ?_ _)); exact BK159.out)) (below_size (by repeat (first | (with_reducible first | exact HB.out | apply below_alloc | apply pw_below_drewN | apply below_drew1 | refine below_set ?_ GE158.out | refine below_set ?_ GE159.out | refine below_set ?_ GE166.out) | exact HB.out))))
      have n1_ := Aside0.mk (blk_below (g := gb158) (o := .cells #[.string a0_0, .slice A0_1 l0_1.length c0_1] 24 (0, 0)) (by (with_reducible repeat (first | refine blk_drewN ?_ _ | refine blk_drew ?_ | refine blk_alloc ?_ _)); exact BK158.out) hb)
      have n2_ := Aside0.mk (blk_below (g := gb159) (o := .cells #[.bool a2_0, .int .i64 a2_1, .int .u32 a2_2, .int .i64 a2_3, .int .u32 a2_4, .int .i64 a2_5, .int .u32 a2_6, .int .u32 a2_7, .int .u32 a2_8, .int .u32 a2_9] 33 (0, 0)) (by (with_reducible repeat (first | refine blk_drewN ?_ _ | refine blk_drew ?_ | refine blk_alloc ?_ _)); exact BK159.out) hb)
      have n3_ := Aside0.mk (blk_below (g := gb166) (o := .cells #[.string (⟨#[]⟩ : ByteArray), .slice none 0 0] 24 (0, 0)) (by (with_reducible repeat (first | refine blk_drewN ?_ _ | refine blk_drew ?_ | refine blk_alloc ?_ _)); exact BK166.out) hb)
      have n4_ := Aside0.mk (below_step (by repeat (first | (with_reducible first | exact HB.out | apply below_alloc | apply pw_below_drewN | apply below_drew1 | refine below_set ?_ GE158.out | refine below_set ?_ GE159.out | refine below_set ?_ GE166.out) | exact HB.out)) hb)
      clear BK158
      clear BK159
      clear BK166
      clear HB
      have HO162 := n0_
      have BK158 := n1_
      have BK159 := n2_
      have BK166 := n3_
      have HB := n4_
      clear n0_ n1_ n2_ n3_ n4_
      clear hb ho16
      refine hK.out _ _ ⟨(blk_cell BK158.out 0).trans rfl, (blk_cell BK158.out 1).trans rfl⟩ (fun hHeld => ?_)
      clear hK K
      refine norm_ (a' := ?_) ?_ ?_
      rotate_left
      ·show Act.put _ (some 24) _ = _
       simp only [Act.put, List.setIfInBounds_toArray, List.set_cons_zero, List.set_cons_succ, i64_w, i32_w]
       rfl
      refine one_ (i := 5) (N := some 27) #[true, true, true, true, true, true, false, true, false] rfl rfl (one_of HT_.out (by kernel_rfl)) (by decide) (fun K hK => ?_)
      refine Kd.R_append_rows_step k33 (w0 := w) w.heap.size (by rfl) (.tmp 24) (.tmp 26) 22 33 (.agg #[(.bool false), (.int .i64 0), (.int .u32 0), (.int .i64 0), (.int .u32 0), (.int .i64 0), (.int .u32 0), (.int .u32 0), (.int .u32 0), (.int .u32 0)]) 64 rfl Try.underlying22 info33 rfl (by decide) (by omega) v161 y160 l0_1 _ _ _ (fun k_ => k_ ≠ gb159) (fun _ => False) rfl rfl ?aO ?aR (fun _ _ h => h) (fun _ h => h.elim) ?aF ?aB ?aS ?aL ?_
      (case aR => repeat (first | exact (Kd.C_below HR0_1.out HB.out) | (with_reducible refine Kd.C_alloc ?_ _) | (with_reducible refine Kd.C_drewN ?_ _) | (with_reducible refine Kd.C_drew ?_)))
      (case aB => exact (by repeat (first | (with_reducible first | exact HB.out | apply below_alloc | apply pw_below_drewN | apply below_drew1 | refine below_set ?_ GE158.out | refine below_set ?_ GE159.out | refine below_set ?_ GE166.out) | exact HB.out)))
      (case aF => exact (fun k_ hk => Kd.freshB (g := gb159) (o := .cells #[.bool a2_0, .int .i64 a2_1, .int .u32 a2_2, .int .i64 a2_3, .int .u32 a2_4, .int .i64 a2_5, .int .u32 a2_6, .int .u32 a2_7, .int .u32 a2_8, .int .u32 a2_9] 33 (0, 0)) (by (with_reducible repeat (first | refine blk_drewN ?_ _ | refine blk_drew ?_ | refine blk_alloc ?_ _)); exact BK159.out) k_ hk))
      (case aO => exact (by (with_reducible repeat (first | apply Kd.R_alloc | apply Kd.R_drewN | apply Kd.R_drew)); exact Kd.R_mono HO162.out (fun _ hk => hk.2)))
      (case aS => exact (below_size (by repeat (first | (with_reducible first | exact HB.out | apply below_alloc | apply pw_below_drewN | apply below_drew1 | refine below_set ?_ GE158.out | refine below_set ?_ GE159.out | refine below_set ?_ GE166.out) | exact HB.out))))
      (case aL => have := LMc5.out; omega)
      intro v164 w17 ho hb hg hat
      rw [← Ny163.out] at ho
      have n0_ := Aside0.mk (blk_grown (g := gb158) (o := .cells #[.string a0_0, .slice A0_1 l0_1.length c0_1] 24 (0, 0)) (by (with_reducible repeat (first | refine blk_drewN ?_ _ | refine blk_drew ?_ | refine blk_alloc ?_ _)); exact BK158.out) hg (Kd.R_ne HO162.out BK158.out (by decide)))
      have n1_ := Aside0.mk (blk_grown (g := gb159) (o := .cells #[.bool a2_0, .int .i64 a2_1, .int .u32 a2_2, .int .i64 a2_3, .int .u32 a2_4, .int .i64 a2_5, .int .u32 a2_6, .int .u32 a2_7, .int .u32 a2_8, .int .u32 a2_9] 33 (0, 0)) (by (with_reducible repeat (first | refine blk_drewN ?_ _ | refine blk_drew ?_ | refine blk_alloc ?_ _)); exact BK159.out) hg (Kd.R_away HO162.out (fun _ hk => hk.2)))
      have n2_ := Aside0.mk (blk_grown (g := gb166) (o := .cells #[.string (⟨#[]⟩ : ByteArray), .slice none 0 0] 24 (0, 0)) (by (with_reducible repeat (first | refine blk_drewN ?_ _ | refine blk_drew ?_ | refine blk_alloc ?_ _)); exact BK166.out) hg (Kd.R_ne HO162.out BK166.out (by decide)))
      have n3_ := Aside0.mk (hb)
      have n4_ := Aside0.mk (ho)
      clear BK158
      clear BK159
      clear BK166
      clear HB
      clear HO162
      have BK158 := n0_
      have BK159 := n1_
      have BK166 := n2_
      have HB := n3_
      have HO165 := n4_
      clear n0_ n1_ n2_ n3_ n4_
      clear ho hb hg hat
      obtain ⟨Ao18, co18, eo18⟩ := Kd.R_slice HO165.out
      (first | subst eo18 | (injection eo18 with f1_ f2_ f3_; have f4_ := f1_.symm; have f5_ := f3_.symm; clear f1_ f2_ f3_; subst f4_; subst f5_))
      refine hK.out _ _ ⟨(blk_cell BK158.out 0).trans rfl, (blk_cell BK158.out 1).trans rfl⟩ (fun hHeld => ?_)
      clear hK K
      refine norm_ (a' := ?_) ?_ ?_
      rotate_left
      ·show Act.put _ (some 27) _ = _
       simp only [Act.put, List.setIfInBounds_toArray, List.set_cons_zero, List.set_cons_succ, i64_w, i32_w]
       rfl
      refine pure_ (i := 6) (N := some 28) (v := ?_) (a' := ?_) #[true, true, true, true, true, true, true, true, false] rfl rfl (any_of HT_.out (by kernel_rfl)) (fun _ _ _ h => h) (Or.inl ⟨by rfl, ?_⟩) ?_ ?_
      rotate_left
      ·intro w'
       go_simp
       with_reducible rfl
      rotate_left
      ·simp only [Act.put, List.setIfInBounds_toArray, List.set_cons_zero, List.set_cons_succ, i64_w, i32_w]
       rfl
      exact norm_ (by simp only [putAll, Act.put, List.setIfInBounds_toArray, List.set_cons_zero, List.set_cons_succ]) (hCont (v161, .slice Ao18 y163.length co18, gb166) _ ⟨hHeld, (by (with_reducible repeat (first | apply Kd.R_alloc | apply Kd.R_drewN | apply Kd.R_drew)); exact HO165.out), (by (with_reducible repeat (first | refine blk_drewN ?_ _ | refine blk_drew ?_ | refine blk_alloc ?_ _)); exact BK158.out), (by (with_reducible repeat (first | refine blk_drewN ?_ _ | refine blk_drew ?_ | refine blk_alloc ?_ _)); exact BK159.out), (by (with_reducible repeat (first | refine blk_drewN ?_ _ | refine blk_drew ?_ | refine blk_alloc ?_ _)); exact BK166.out), GW166.out, GE166.out, NB158_166.out, NB166_158.out, NB159_166.out, NB166_159.out, (by repeat (first | (with_reducible first | exact HB.out | apply below_alloc | apply pw_below_drewN | apply below_drew1 | refine below_set ?_ GE158.out | refine below_set ?_ GE159.out | refine below_set ?_ GE166.out) | exact HB.out))⟩)
    rintro ⟨v161, v164, gb166⟩ w19 ⟨hS_, h0_, h1_, h2_, h3_, h4_, h5_, h6_, h7_, h8_, h9_, h10_⟩
    have n0_ : Aside0 (Kd.R k33 33 w19 w.heap.size (fun k_ => k_ ≠ gb159) v164 y163) := ⟨h0_⟩
    have n1_ : Aside0 (w19.heap[gb158]? = some (.cells #[.string a0_0, .slice A0_1 l0_1.length c0_1] 24 (0, 0))) := ⟨h1_⟩
    have n2_ : Aside0 (w19.heap[gb159]? = some (.cells #[.bool a2_0, .int .i64 a2_1, .int .u32 a2_2, .int .i64 a2_3, .int .u32 a2_4, .int .i64 a2_5, .int .u32 a2_6, .int .u32 a2_7, .int .u32 a2_8, .int .u32 a2_9] 33 (0, 0))) := ⟨h2_⟩
    have n3_ : Aside0 (w19.heap[gb166]? = some (.cells #[.string (⟨#[]⟩ : ByteArray), .slice none 0 0] 24 (0, 0))) := ⟨h3_⟩
    have n4_ : Aside0 (w.heap.size ≤ gb166) := ⟨h4_⟩
    have n5_ : Aside0 (w.heap.size ≤ gb166) := ⟨h5_⟩
    have n6_ : Aside0 (gb158 ≠ gb166) := ⟨h6_⟩
    have n7_ : Aside0 (gb166 ≠ gb158) := ⟨h7_⟩
    have n8_ : Aside0 (gb159 ≠ gb166) := ⟨h8_⟩
    have n9_ : Aside0 (gb166 ≠ gb159) := ⟨h9_⟩
    have n10_ : Aside0 (Below w.heap.size w w19) := ⟨h10_⟩
    clear BK158
    clear BK159
    clear HB
    clear h0_ h1_ h2_ h3_ h4_ h5_ h6_ h7_ h8_ h9_ h10_
    have HO165 := n0_
    have BK158 := n1_
    have BK159 := n2_
    have BK166 := n3_
    have GW166 := n4_
    have GE166 := n5_
    have NB158_166 := n6_
    have NB166_158 := n7_
    have NB159_166 := n8_
    have NB166_159 := n9_
    have HB := n10_
    clear n0_ n1_ n2_ n3_ n4_ n5_ n6_ n7_ n8_ n9_ n10_
    have hHeld : w19.cell? ⟨gb158, 0, none⟩ = some (.string a0_0) ∧ w19.cell? ⟨gb158, 1, none⟩ = some (.slice A0_1 l0_1.length c0_1) := hS_
    obtain ⟨Ao20, co20, eo20⟩ := Kd.R_slice HO165.out
    (first | subst eo20 | (injection eo20 with f1_ f2_ f3_; have f4_ := f1_.symm; have f5_ := f3_.symm; clear f1_ f2_ f3_; subst f4_; subst f5_))
    refine norm_ (a' := ?_) ?_ ?_
    rotate_left
    ·simp only [putAll, Act.put, List.setIfInBounds_toArray, List.set_cons_zero, List.set_cons_succ]
     rfl
    refine one_ (i := 8) (N := none) #[true, true, true, true, true, true, true, true, true] rfl rfl (one_of HT_.out (by kernel_rfl)) (by decide) (fun K hK => ?_)
    have hs21 : w19.cell? ⟨gb166, 0, none⟩ = some (.string (⟨#[]⟩ : ByteArray)) := (blk_cell BK166.out 0).trans rfl
    have hfs21 := blk_frozen BK166.out 0
    have hns21_0 := NB158_166.out
    have hns21_1 := NB159_166.out
    have hms21_0 := NB166_158.out
    have hms21_1 := NB166_159.out
    have hs22 : w19.cell? ⟨gb166, 1, none⟩ = some (.slice none 0 0) := (blk_cell BK166.out 1).trans rfl
    have hfs22 := blk_frozen BK166.out 1
    have hns22_0 := NB158_166.out
    have hns22_1 := NB159_166.out
    have hms22_0 := NB166_158.out
    have hms22_1 := NB166_159.out
    refine skip_ (w1 := ?_) (by rfl) rfl ?_ ?_
    rotate_left
    ·go_simp
     rfl
    refine hK.out _ _ ⟨((cell_far (p := ⟨gb166, _, none⟩) NB158_166.out _).trans (((cell_far (p := ⟨gb166, _, none⟩) NB158_166.out _).trans (hHeld.1)))), ((cell_far (p := ⟨gb166, _, none⟩) NB158_166.out _).trans (((cell_far (p := ⟨gb166, _, none⟩) NB158_166.out _).trans (hHeld.2))))⟩ (fun hHeld => ?_)
    clear hK K
    refine done_ (done_of HT_.out (by kernel_rfl)) ?_
    have hnb23 := NB158_166.out
    have hnc23 := NB166_158.out
    have hcz24_0 : w19.cell? ⟨gb158, 0, none⟩ = some (.string a0_0) := (blk_cell BK158.out 0).trans rfl
    have hcz24_1 : w19.cell? ⟨gb158, 1, none⟩ = some (.slice A0_1 l0_1.length c0_1) := (blk_cell BK158.out 1).trans rfl
    have hfz24_0 := blk_frozen BK158.out 0
    have hfz24_1 := blk_frozen BK158.out 1
    try go_wp2_with (first | ((with_reducible refine gate_callee (f := 12) rfl ?_); refine goesL_ (some 30) rfl rfl Try.func12 (by kernel_rfl) rfl #[.agg #[.string a0_0, .slice A0_1 l0_1.length c0_1]] rfl (by (try simp only [List.map_toArray, List.map_cons, List.map_nil]); first | done | rfl | (simp only [List.length_drop, List.length_take]; rfl)) ?_; (with_reducible refine (waymarkref10_Check.calls k a0_0 _ _ l0_1 t167 _ ?side1 ?side2 A6.out).mono ?_); (case side1 => exact Kd.C_below HR0_1.out (by repeat (first | (with_reducible first | exact HB.out | apply below_alloc | apply pw_below_drewN | apply below_drew1 | refine below_set ?_ GE158.out | refine below_set ?_ GE159.out | refine below_set ?_ GE166.out) | exact HB.out))); (case side2 => exact HC0_1.out); rintro e w25 ⟨rfl, hb⟩; refine ⟨_, rfl, ?_⟩; have n0_ := Aside0.mk (Kd.R_below (by (with_reducible repeat (first | apply Kd.R_alloc | apply Kd.R_drewN | apply Kd.R_drew)); exact (Kd.R_mono (Kd.R_far (p := ⟨gb166, 1, none⟩) (Kd.R_far (p := ⟨gb166, 0, none⟩) (Kd.R_types HO165.out BK166.out (by decide)) (fun _ hk => hk.2) (.string a0_0)) (fun _ hk => hk.2) (.slice Ao20 y163.length co20)) (fun _ h_ => h_.1))) hb); have n1_ := Aside0.mk (blk_below (g := gb158) (o := .cells #[.string a0_0, .slice A0_1 l0_1.length c0_1] 24 (0, 0)) (by (with_reducible repeat (first | refine blk_drewN ?_ _ | refine blk_drew ?_ | refine blk_alloc ?_ _)); refine blk_far ?_ NB158_166.out _; (with_reducible repeat (first | refine blk_drewN ?_ _ | refine blk_drew ?_ | refine blk_alloc ?_ _)); refine blk_far ?_ NB158_166.out _; (with_reducible repeat (first | refine blk_drewN ?_ _ | refine blk_drew ?_ | refine blk_alloc ?_ _)); exact BK158.out) hb); have n2_ := Aside0.mk (blk_below (g := gb159) (o := .cells #[.bool a2_0, .int .i64 a2_1, .int .u32 a2_2, .int .i64 a2_3, .int .u32 a2_4, .int .i64 a2_5, .int .u32 a2_6, .int .u32 a2_7, .int .u32 a2_8, .int .u32 a2_9] 33 (0, 0)) (by (with_reducible repeat (first | refine blk_drewN ?_ _ | refine blk_drew ?_ | refine blk_alloc ?_ _)); refine blk_far ?_ NB159_166.out _; (with_reducible repeat (first | refine blk_drewN ?_ _ | refine blk_drew ?_ | refine blk_alloc ?_ _)); refine blk_far ?_ NB159_166.out _; (with_reducible repeat (first | refine blk_drewN ?_ _ | refine blk_drew ?_ | refine blk_alloc ?_ _)); exact BK159.out) hb); have n3_ := Aside0.mk (blk_below (g := gb166) (o := .cells #[.string a0_0, .slice Ao20 y163.length co20] 24 (0, 0)) (by (with_reducible repeat (first | refine blk_drewN ?_ _ | refine blk_drew ?_ | refine blk_alloc ?_ _)); refine blk_put (cs := #[.string a0_0, .slice none 0 0]) ?_ 1 _ rfl; (with_reducible repeat (first | refine blk_drewN ?_ _ | refine blk_drew ?_ | refine blk_alloc ?_ _)); refine blk_put (cs := #[.string (⟨#[]⟩ : ByteArray), .slice none 0 0]) ?_ 0 _ rfl; (with_reducible repeat (first | refine blk_drewN ?_ _ | refine blk_drew ?_ | refine blk_alloc ?_ _)); exact BK166.out) hb); have n4_ := Aside0.mk (below_step (by repeat (first | (with_reducible first | exact HB.out | apply below_alloc | apply pw_below_drewN | apply below_drew1 | refine below_set ?_ GE158.out | refine below_set ?_ GE159.out | refine below_set ?_ GE166.out) | exact HB.out)) hb); clear HO165; clear BK158; clear BK159; clear BK166; clear HB; have HO165 := n0_; have BK158 := n1_; have BK159 := n2_; have BK166 := n3_; have HB := n4_; clear n0_ n1_ n2_ n3_ n4_; (try clear hb); (try clear hb2); (try clear hk); (try clear hi); have hnb26 := NB166_159.out; have hnc26 := NB159_166.out; have hcz27_0 : w25.cell? ⟨gb166, 0, none⟩ = some (.string a0_0) := (blk_cell BK166.out 0).trans rfl; have hcz27_1 : w25.cell? ⟨gb166, 1, none⟩ = some (.slice Ao20 y163.length co20) := (blk_cell BK166.out 1).trans rfl; have hfz27_0 := blk_frozen BK166.out 0; have hfz27_1 := blk_frozen BK166.out 1) | ((with_reducible refine gate_callee (f := 13) rfl ?_); refine goesL_ (some 32) rfl rfl Try.func13 (by kernel_rfl) rfl #[.agg #[.string a0_0, .slice Ao20 y163.length co20]] rfl (by (try simp only [List.map_toArray, List.map_cons, List.map_nil]); first | done | rfl | (simp only [List.length_drop, List.length_take]; rfl)) ?_; (with_reducible refine (filter_Check.calls a0_0 _ _ y163 t168 _ ?side1 ?side2 A7.out).mono ?_); (case side1 => repeat (first | exact (Kd.R_reads' HO165.out).2.2 | (with_reducible refine Kd.C_alloc ?_ _) | (with_reducible refine Kd.C_drewN ?_ _) | (with_reducible refine Kd.C_drew ?_))); (case side2 => exact (Kd.R_reads' HO165.out).2.1); rintro e w28 ⟨rfl, hb⟩; refine ⟨_, rfl, ?_⟩; have n0_ := Aside0.mk (Kd.R_below (by (with_reducible repeat (first | apply Kd.R_alloc | apply Kd.R_drewN | apply Kd.R_drew)); exact HO165.out) hb); have n1_ := Aside0.mk (blk_below (g := gb158) (o := .cells #[.string a0_0, .slice A0_1 l0_1.length c0_1] 24 (0, 0)) (by (with_reducible repeat (first | refine blk_drewN ?_ _ | refine blk_drew ?_ | refine blk_alloc ?_ _)); exact BK158.out) hb); have n2_ := Aside0.mk (blk_below (g := gb159) (o := .cells #[.bool a2_0, .int .i64 a2_1, .int .u32 a2_2, .int .i64 a2_3, .int .u32 a2_4, .int .i64 a2_5, .int .u32 a2_6, .int .u32 a2_7, .int .u32 a2_8, .int .u32 a2_9] 33 (0, 0)) (by (with_reducible repeat (first | refine blk_drewN ?_ _ | refine blk_drew ?_ | refine blk_alloc ?_ _)); exact BK159.out) hb); have n3_ := Aside0.mk (blk_below (g := gb166) (o := .cells #[.string a0_0, .slice Ao20 y163.length co20] 24 (0, 0)) (by (with_reducible repeat (first | refine blk_drewN ?_ _ | refine blk_drew ?_ | refine blk_alloc ?_ _)); exact BK166.out) hb); have n4_ := Aside0.mk (below_step (by repeat (first | (with_reducible first | exact HB.out | apply below_alloc | apply pw_below_drewN | apply below_drew1 | refine below_set ?_ GE158.out | refine below_set ?_ GE159.out | refine below_set ?_ GE166.out) | exact HB.out)) hb); clear HO165; clear BK158; clear BK159; clear BK166; clear HB; have HO165 := n0_; have BK158 := n1_; have BK159 := n2_; have BK166 := n3_; have HB := n4_; clear n0_ n1_ n2_ n3_ n4_; (try clear hb); (try clear hb2); (try clear hk); (try clear hi)))
    go_loopg [9] k (fun kq v9 w' => ∃ (x9_1 : Int), v9 = .int .i64 x9_1 ∧ Aside0 (waymarklaw10_FilterDecides_E.l0 kq l1 t167 x9_1 a0_0 l0_1 a2_0 a2_1 a2_2 a2_3 a2_4 a2_5 a2_6 a2_7 a2_8 a2_9 a0_0 y163 = some r) ∧ Aside0 (kq ≤ k) ∧ Aside0 (Kd.R k33 33 w' w.heap.size (fun k_ => k_ ≠ gb159) (.slice Ao20 y163.length co20) y163) ∧ Aside0 (w'.heap[gb158]? = some (.cells #[.string a0_0, (.slice A0_1 l0_1.length c0_1)] 24 (0, 0))) ∧ Aside0 (w'.heap[gb159]? = some (.cells #[.bool a2_0, .int .i64 a2_1, .int .u32 a2_2, .int .i64 a2_3, .int .u32 a2_4, .int .i64 a2_5, .int .u32 a2_6, .int .u32 a2_7, .int .u32 a2_8, .int .u32 a2_9] 33 (0, 0))) ∧ Aside0 (w'.heap[gb166]? = some (.cells #[.string a0_0, (.slice Ao20 y163.length co20)] 24 (0, 0))) ∧ Aside0 (Below w.heap.size w w'))
    case atStart => exact ⟨(0), (by first | rfl | (simp; done) | (simp [*]; done)), H', ⟨Nat.le_refl _⟩, ⟨by (with_reducible repeat (first | apply Kd.R_alloc | apply Kd.R_drewN | apply Kd.R_drew)); exact HO165.out⟩, ⟨by (with_reducible repeat (first | refine blk_drewN ?_ _ | refine blk_drew ?_ | refine blk_alloc ?_ _)); exact BK158.out⟩, ⟨by (with_reducible repeat (first | refine blk_drewN ?_ _ | refine blk_drew ?_ | refine blk_alloc ?_ _)); exact BK159.out⟩, ⟨by (with_reducible repeat (first | refine blk_drewN ?_ _ | refine blk_drew ?_ | refine blk_alloc ?_ _)); exact BK166.out⟩, ⟨by repeat (first | (with_reducible first | exact HB.out | apply below_alloc | apply pw_below_drewN | apply below_drew1 | refine below_set ?_ GE158.out | refine below_set ?_ GE159.out | refine below_set ?_ GE166.out) | exact HB.out)⟩⟩
    case round =>
     clear H'
     try clear c1
     try clear c2
     try clear p2
     try clear c3
     try clear c4
     try clear c4b0
     try clear c4b1
     try clear c5
     try clear c8
     try clear c8b0
     try clear c8b1
     try clear c11
     try clear c12
     try clear c13
     try clear c23
     try clear c26
     try clear hcz12_0
     try clear hcz12_1
     try clear hcz24_0
     try clear hcz24_1
     try clear hcz27_0
     try clear hcz27_1
     try clear hfz12_0
     try clear hfz12_1
     try clear hfz24_0
     try clear hfz24_1
     try clear hfz27_0
     try clear hfz27_1
     obtain ⟨x9_1, rfl, HA, HK1, HO_167001, BK158, BK159, BK166, HB⟩ := hrel
     cases gk with
     | zero => exact absurd HA.out (by simp [waymarklaw10_FilterDecides_E.l0])
     | succ k1 =>
      have H := HA.out
      clear HA
      simp only [waymarklaw10_FilterDecides_E.l0] at H
      have HC29 := Aside0.mk H
      clear H
      go_upto_region 8 with (fail)
      go_cut [42] (fun v42 wc => ∃ (kq : Nat) (x42_28 : Bool), v42 = .bool x42_28 ∧ Aside0 (waymarklaw10_FilterDecides_E.j1 kq l1 t167 x9_1 x42_28 a0_0 l0_1 a2_0 a2_1 a2_2 a2_3 a2_4 a2_5 a2_6 a2_7 a2_8 a2_9 a0_0 y163 = some r) ∧ Aside0 (kq ≤ k1) ∧ Aside0 (Kd.R k33 33 wc w.heap.size (fun k_ => k_ ≠ gb159) (.slice Ao20 y163.length co20) y163) ∧ Aside0 (wc.heap[gb158]? = some (.cells #[.string a0_0, (.slice A0_1 l0_1.length c0_1)] 24 (0, 0))) ∧ Aside0 (wc.heap[gb159]? = some (.cells #[.bool a2_0, .int .i64 a2_1, .int .u32 a2_2, .int .i64 a2_3, .int .u32 a2_4, .int .i64 a2_5, .int .u32 a2_6, .int .u32 a2_7, .int .u32 a2_8, .int .u32 a2_9] 33 (0, 0))) ∧ Aside0 (wc.heap[gb166]? = some (.cells #[.string a0_0, (.slice Ao20 y163.length co20)] 24 (0, 0))) ∧ Aside0 (Below w.heap.size w wc))
      case first =>
       have H := HC29.out
       clear HC29
       by_cases c30 : x9_1 < (l1.length : Int)
       ·rw [if_pos c30] at H
        have c30b0 : decide (x9_1 < (l1.length : Int)) = true := decide_eq_true c30
        clear c30
        (first | rw [c30b0] | (simp only [i64_w, i32_w]; rw [c30b0]) | skip)
        have H' := Aside0.mk H
        clear H
        go_wp2
        go_meet
        case rel => exact ⟨_, (decide (x9_1 < 30)), (by first | rfl | (simp; done) | (simp [*]; done)), H', ⟨by have := HK1.out; first | omega | exact Nat.le_refl _⟩, ⟨by (with_reducible repeat (first | apply Kd.R_alloc | apply Kd.R_drewN | apply Kd.R_drew)); exact HO_167001.out⟩, ⟨by (with_reducible repeat (first | refine blk_drewN ?_ _ | refine blk_drew ?_ | refine blk_alloc ?_ _)); exact BK158.out⟩, ⟨by (with_reducible repeat (first | refine blk_drewN ?_ _ | refine blk_drew ?_ | refine blk_alloc ?_ _)); exact BK159.out⟩, ⟨by (with_reducible repeat (first | refine blk_drewN ?_ _ | refine blk_drew ?_ | refine blk_alloc ?_ _)); exact BK166.out⟩, ⟨by repeat (first | (with_reducible first | exact HB.out | apply below_alloc | apply pw_below_drewN | apply below_drew1 | refine below_set ?_ GE158.out | refine below_set ?_ GE159.out | refine below_set ?_ GE166.out) | exact HB.out)⟩⟩
       ·rw [if_neg c30] at H
        have c30b0 : decide (x9_1 < (l1.length : Int)) = false := decide_eq_false c30
        clear c30
        (first | rw [c30b0] | (simp only [i64_w, i32_w]; rw [c30b0]) | skip)
        have H' := Aside0.mk H
        clear H
        go_wp2
        go_meet
        case rel => exact ⟨_, (false), (by first | rfl | (simp; done) | (simp [*]; done)), H', ⟨by have := HK1.out; first | omega | exact Nat.le_refl _⟩, ⟨by (with_reducible repeat (first | apply Kd.R_alloc | apply Kd.R_drewN | apply Kd.R_drew)); exact HO_167001.out⟩, ⟨by (with_reducible repeat (first | refine blk_drewN ?_ _ | refine blk_drew ?_ | refine blk_alloc ?_ _)); exact BK158.out⟩, ⟨by (with_reducible repeat (first | refine blk_drewN ?_ _ | refine blk_drew ?_ | refine blk_alloc ?_ _)); exact BK159.out⟩, ⟨by (with_reducible repeat (first | refine blk_drewN ?_ _ | refine blk_drew ?_ | refine blk_alloc ?_ _)); exact BK166.out⟩, ⟨by repeat (first | (with_reducible first | exact HB.out | apply below_alloc | apply pw_below_drewN | apply below_drew1 | refine below_set ?_ GE158.out | refine below_set ?_ GE159.out | refine below_set ?_ GE166.out) | exact HB.out)⟩⟩
      case rest =>
       clear HC29
       try clear c1
       try clear c2
       try clear p2
       try clear c3
       try clear c4
       try clear c4b0
       try clear c4b1
       try clear c5
       try clear c8
       try clear c8b0
       try clear c8b1
       try clear c11
       try clear c12
       try clear c13
       try clear c23
       try clear c26
       try clear c30
       try clear c30b0
       try clear hcz12_0
       try clear hcz12_1
       try clear hcz24_0
       try clear hcz24_1
       try clear hcz27_0
       try clear hcz27_1
       try clear hfz12_0
       try clear hfz12_1
       try clear hfz24_0
       try clear hfz24_1
       try clear hfz27_0
       try clear hfz27_1
       try clear p2
       obtain ⟨kq, x42_28, rfl, HA, HJ28, HO_167001, BK158, BK159, BK166, HB⟩ := hcut
       cases kq with
       | zero => exact absurd HA.out (by simp [waymarklaw10_FilterDecides_E.j1])
       | succ kj28 =>
        have H := HA.out
        clear HA
        simp only [waymarklaw10_FilterDecides_E.j1] at H
        by_cases c31 : x42_28 = true
        ·subst c31
         have H1 : (if 0 ≤ x9_1 then (if x9_1 < (l1.length : Int) then ((filter_Decides.f a0_0 y163 ((rd_T40 l1 x9_1).f0) ((rd_T40 l1 x9_1).f1) ((rd_T40 l1 x9_1).f2) ((rd_T40 l1 x9_1).f3) ((rd_T40 l1 x9_1).f4)).bind fun bt172 => ((filter_Permits.f a0_0 y163 ((rd_T40 l1 x9_1).f0) ((rd_T40 l1 x9_1).f1) ((rd_T40 l1 x9_1).f2) ((rd_T40 l1 x9_1).f3) ((rd_T40 l1 x9_1).f4)).bind fun bt175 => ((filter_Fits.f kj28 a2_0 a2_1 a2_2 a2_3 a2_4 a2_5 a2_6 a2_7 a2_8 a2_9 ((rd_T40 l1 x9_1).f0) ((rd_T40 l1 x9_1).f1) ((rd_T40 l1 x9_1).f2) ((rd_T40 l1 x9_1).f3) ((rd_T40 l1 x9_1).f4)).bind fun t178 => ((waymarkref10_Fits.f kj28 a2_0 a2_1 a2_2 a2_3 a2_4 a2_5 a2_6 a2_7 a2_8 a2_9 ((rd_T40 l1 x9_1).f0) ((rd_T40 l1 x9_1).f1) ((rd_T40 l1 x9_1).f2) ((rd_T40 l1 x9_1).f3) ((rd_T40 l1 x9_1).f4)).bind fun t180 => (if (t178 != t180) = true then (waymarklaw10_FilterDecides_E.j2 kj28 l1 t167 x9_1 bt172.1 bt175.1 true a0_0 l0_1 a2_0 a2_1 a2_2 a2_3 a2_4 a2_5 a2_6 a2_7 a2_8 a2_9 a0_0 y163) else (if bt172.2 = t167 then (waymarklaw10_FilterDecides_E.j2 kj28 l1 t167 x9_1 bt172.1 bt175.1 (bt175.2 != t167) a0_0 l0_1 a2_0 a2_1 a2_2 a2_3 a2_4 a2_5 a2_6 a2_7 a2_8 a2_9 a0_0 y163) else (waymarklaw10_FilterDecides_E.j2 kj28 l1 t167 x9_1 bt172.1 bt175.1 true a0_0 l0_1 a2_0 a2_1 a2_2 a2_3 a2_4 a2_5 a2_6 a2_7 a2_8 a2_9 a0_0 y163))))))) else (none)) else (none)) = some r := by rw [if_pos rfl] at H; exact H
         clear H
         have H := H1
         clear H1
         by_cases c32 : 0 ≤ x9_1
         ·rw [if_pos c32] at H
          have c32b0 : decide (0 ≤ x9_1) = true := decide_eq_true c32
          clear c32
          by_cases c33 : x9_1 < (l1.length : Int)
          ·rw [if_pos c33] at H
           have c33b0 : decide (x9_1 < (l1.length : Int)) = true := decide_eq_true c33
           clear c33
           replace H := Option.bind_eq_some_iff.mp H
           obtain ⟨⟨t172, t173⟩, A340, H⟩ := H
           replace H : ((filter_Permits.f a0_0 y163 ((rd_T40 l1 x9_1).f0) ((rd_T40 l1 x9_1).f1) ((rd_T40 l1 x9_1).f2) ((rd_T40 l1 x9_1).f3) ((rd_T40 l1 x9_1).f4)).bind fun bt175 => ((filter_Fits.f kj28 a2_0 a2_1 a2_2 a2_3 a2_4 a2_5 a2_6 a2_7 a2_8 a2_9 ((rd_T40 l1 x9_1).f0) ((rd_T40 l1 x9_1).f1) ((rd_T40 l1 x9_1).f2) ((rd_T40 l1 x9_1).f3) ((rd_T40 l1 x9_1).f4)).bind fun t178 => ((waymarkref10_Fits.f kj28 a2_0 a2_1 a2_2 a2_3 a2_4 a2_5 a2_6 a2_7 a2_8 a2_9 ((rd_T40 l1 x9_1).f0) ((rd_T40 l1 x9_1).f1) ((rd_T40 l1 x9_1).f2) ((rd_T40 l1 x9_1).f3) ((rd_T40 l1 x9_1).f4)).bind fun t180 => (if (t178 != t180) = true then (waymarklaw10_FilterDecides_E.j2 kj28 l1 t167 x9_1 t172 bt175.1 true a0_0 l0_1 a2_0 a2_1 a2_2 a2_3 a2_4 a2_5 a2_6 a2_7 a2_8 a2_9 a0_0 y163) else (if t173 = t167 then (waymarklaw10_FilterDecides_E.j2 kj28 l1 t167 x9_1 t172 bt175.1 (bt175.2 != t167) a0_0 l0_1 a2_0 a2_1 a2_2 a2_3 a2_4 a2_5 a2_6 a2_7 a2_8 a2_9 a0_0 y163) else (waymarklaw10_FilterDecides_E.j2 kj28 l1 t167 x9_1 t172 bt175.1 true a0_0 l0_1 a2_0 a2_1 a2_2 a2_3 a2_4 a2_5 a2_6 a2_7 a2_8 a2_9 a0_0 y163)))))) = some r := H
           have A34 := Aside0.mk A340
           clear A340
           replace H := Option.bind_eq_some_iff.mp H
           obtain ⟨⟨t175, t176⟩, A350, H⟩ := H
           replace H : ((filter_Fits.f kj28 a2_0 a2_1 a2_2 a2_3 a2_4 a2_5 a2_6 a2_7 a2_8 a2_9 ((rd_T40 l1 x9_1).f0) ((rd_T40 l1 x9_1).f1) ((rd_T40 l1 x9_1).f2) ((rd_T40 l1 x9_1).f3) ((rd_T40 l1 x9_1).f4)).bind fun t178 => ((waymarkref10_Fits.f kj28 a2_0 a2_1 a2_2 a2_3 a2_4 a2_5 a2_6 a2_7 a2_8 a2_9 ((rd_T40 l1 x9_1).f0) ((rd_T40 l1 x9_1).f1) ((rd_T40 l1 x9_1).f2) ((rd_T40 l1 x9_1).f3) ((rd_T40 l1 x9_1).f4)).bind fun t180 => (if (t178 != t180) = true then (waymarklaw10_FilterDecides_E.j2 kj28 l1 t167 x9_1 t172 t175 true a0_0 l0_1 a2_0 a2_1 a2_2 a2_3 a2_4 a2_5 a2_6 a2_7 a2_8 a2_9 a0_0 y163) else (if t173 = t167 then (waymarklaw10_FilterDecides_E.j2 kj28 l1 t167 x9_1 t172 t175 (t176 != t167) a0_0 l0_1 a2_0 a2_1 a2_2 a2_3 a2_4 a2_5 a2_6 a2_7 a2_8 a2_9 a0_0 y163) else (waymarklaw10_FilterDecides_E.j2 kj28 l1 t167 x9_1 t172 t175 true a0_0 l0_1 a2_0 a2_1 a2_2 a2_3 a2_4 a2_5 a2_6 a2_7 a2_8 a2_9 a0_0 y163))))) = some r := H
           have A35 := Aside0.mk A350
           clear A350
           have HC36 := Aside0.mk H
           clear H
           try go_wp2
           have n0_ := Aside0.mk (Kd.R_drew HO_167001.out)
           have n1_ := Aside0.mk (blk_drew BK158.out)
           have n2_ := Aside0.mk (blk_drew BK159.out)
           have n3_ := Aside0.mk (blk_drew BK166.out)
           have n4_ := Aside0.mk (below_drew1 HB.out)
           clear HO_167001
           clear BK158
           clear BK159
           clear BK166
           clear HB
           have HO_167001 := n0_
           have BK158 := n1_
           have BK159 := n2_
           have BK166 := n3_
           have HB := n4_
           clear n0_ n1_ n2_ n3_ n4_
           have p171 : 0 ≤ (x9_1 : Int) := of_decide_eq_true (by first | (with_reducible assumption) | assumption)
           have q171 : x9_1 < (l1.length : Int) := of_decide_eq_true (by first | (with_reducible assumption) | assumption)
           obtain ⟨ad171, e171, hx171_0, hx171_1, hx171_2, hx171_3, hx171_4⟩ := at_T40 HR1.out x9_1 p171 q171
           have hw171_4 := hx171_4
           have hw171_3 := hx171_3
           have hw171_2 := hx171_2
           have hw171_1 := hx171_1
           have hw171_0 := hx171_0
           cases e171
           replace hx171_0 := pw_cell_below HB.out hx171_0
           replace hx171_1 := pw_cell_below HB.out hx171_1
           replace hx171_2 := pw_cell_below HB.out hx171_2
           replace hx171_3 := pw_cell_below HB.out hx171_3
           replace hx171_4 := pw_cell_below HB.out hx171_4
           replace p171 := eq_true p171
           replace q171 := eq_true q171
           refine start_ (n := 11) (S := fun w' => w'.cell? ⟨gb166, 0, none⟩ = some (.string a0_0) ∧ w'.cell? ⟨gb166, 1, none⟩ = some (.slice Ao20 y163.length co20) ∧ w'.cell? (ad171.add ((x9_1).toNat * 5)) = some (.int .u32 ((rd_T40 l1 x9_1).f0)) ∧ w'.cell? ⟨(ad171.add ((x9_1).toNat * 5)).block, (ad171.add ((x9_1).toNat * 5)).off + 1, none⟩ = some (.int .u32 ((rd_T40 l1 x9_1).f1)) ∧ w'.cell? ⟨(ad171.add ((x9_1).toNat * 5)).block, (ad171.add ((x9_1).toNat * 5)).off + 2, none⟩ = some (.int .u8 ((rd_T40 l1 x9_1).f2)) ∧ w'.cell? ⟨(ad171.add ((x9_1).toNat * 5)).block, (ad171.add ((x9_1).toNat * 5)).off + 3, none⟩ = some (.int .u16 ((rd_T40 l1 x9_1).f3)) ∧ w'.cell? ⟨(ad171.add ((x9_1).toNat * 5)).block, (ad171.add ((x9_1).toNat * 5)).off + 4, none⟩ = some (.int .u16 ((rd_T40 l1 x9_1).f4))) (ds := []) #[false, false, false, false, false, false, false, false, false, false, false] (by kernel_rfl) rfl rfl ⟨(blk_cell BK166.out 0).trans rfl, (blk_cell BK166.out 1).trans rfl, (pw_cell_below HB.out hw171_0), (pw_cell_below HB.out hw171_1), (pw_cell_below HB.out hw171_2), (pw_cell_below HB.out hw171_3), (pw_cell_below HB.out hw171_4)⟩ (fun hHeld => ?_); refine with_tabW waymarklaw10_FilterDecides_E.tab10 waymarklaw10_FilterDecides_E.bits10 (fun HT_ HW_ => ?_)
           generalize wc.drew = w37 at HO_167001 BK158 BK159 BK166 HB hx171_0 hx171_1 hx171_2 hx171_3 hx171_4 hHeld ⊢
           refine pure_ (i := 1) (N := some 47) (v := ?_) (a' := ?_) #[false, true, false, false, false, false, false, false, false, false, false] rfl rfl (any_of HT_.out (by kernel_rfl)) (fun _ _ _ h => h) (Or.inl ⟨by rfl, ?_⟩) ?_ ?_
           rotate_left
           ·intro w'
            go_simp
            with_reducible rfl
           rotate_left
           ·simp only [Act.put, List.setIfInBounds_toArray, List.set_cons_zero, List.set_cons_succ, i64_w, i32_w]
            rfl
           refine pure_ (i := 2) (N := some 48) (v := ?_) (a' := ?_) #[false, true, true, false, false, false, false, false, false, false, false] rfl rfl (any_of HT_.out (by kernel_rfl)) (fun _ _ _ h => h) (Or.inl ⟨by rfl, ?_⟩) ?_ ?_
           rotate_left
           ·intro w'
            go_simp
            with_reducible rfl
           rotate_left
           ·simp only [Act.put, List.setIfInBounds_toArray, List.set_cons_zero, List.set_cons_succ, i64_w, i32_w]
            rfl
           refine pure_ (i := 3) (N := some 49) (v := ?_) (a' := ?_) #[false, true, true, true, false, false, false, false, false, false, false] rfl rfl (any_of HT_.out (by kernel_rfl)) (fun _ _ _ h => h) (Or.inl ⟨by rfl, ?_⟩) ?_ ?_
           rotate_left
           ·intro w'
            go_simp
            with_reducible rfl
           rotate_left
           ·simp only [Act.put, List.setIfInBounds_toArray, List.set_cons_zero, List.set_cons_succ, i64_w, i32_w]
            rfl
           refine take_ (i := 0) (N := some 46) (v := ?_) (a' := ?_) #[true, true, true, true, false, false, false, false, false, false, false] rfl rfl (take_ofW HT_.out HW_.out (by kernel_rfl)) (fun _ _ _ h => h) (Or.inl ⟨by rfl, ?_⟩) hHeld ?_ ?_
           rotate_left
           ·rintro w' ⟨s0, s1, s2, s3, s4, s5, s6⟩
            go_simp
            with_reducible rfl
           rotate_left
           ·simp only [Act.put, List.setIfInBounds_toArray, List.set_cons_zero, List.set_cons_succ, i64_w, i32_w]
            rfl
           refine take_ (i := 4) (N := some 50) (v := ?_) (a' := ?_) #[true, true, true, true, true, false, false, false, false, false, false] rfl rfl (take_ofW HT_.out HW_.out (by kernel_rfl)) (fun _ _ _ h => h) (Or.inl ⟨by rfl, ?_⟩) hHeld ?_ ?_
           rotate_left
           ·rintro w' ⟨s0, s1, s2, s3, s4, s5, s6⟩
            go_simp
            with_reducible rfl
           rotate_left
           ·simp only [Act.put, List.setIfInBounds_toArray, List.set_cons_zero, List.set_cons_succ, i64_w, i32_w]
            rfl
           refine one_ (i := 5) (N := some 51) #[true, true, true, true, true, true, false, false, false, false, false] rfl rfl (one_of HT_.out (by kernel_rfl)) (by decide) (fun K hK => ?_)
           refine goes_ Try.func14 (by kernel_rfl) rfl #[.agg #[.string a0_0, .slice Ao20 y163.length co20], .agg #[.int .u32 ((rd_T40 l1 x9_1).f0), .int .u32 ((rd_T40 l1 x9_1).f1), .int .u8 ((rd_T40 l1 x9_1).f2), .int .u16 ((rd_T40 l1 x9_1).f3), .int .u16 ((rd_T40 l1 x9_1).f4)]] (by rfl) rfl rfl (by (try simp only [List.map_toArray, List.map_cons, List.map_nil]); first | done | rfl | (simp only [List.length_drop, List.length_take]; rfl)) ?_
           with_reducible refine (filter_Decides.calls a0_0 _ _ y163 ((rd_T40 l1 x9_1).f0) ((rd_T40 l1 x9_1).f1) ((rd_T40 l1 x9_1).f2) ((rd_T40 l1 x9_1).f3) ((rd_T40 l1 x9_1).f4) t172 t173 _ ?side1 ?side2 A34.out).mono ?_
           (case side1 => repeat (first | exact (Kd.R_reads' HO_167001.out).2.2 | (with_reducible refine Kd.C_alloc ?_ _) | (with_reducible refine Kd.C_drewN ?_ _) | (with_reducible refine Kd.C_drew ?_)))
           (case side2 => exact (Kd.R_reads' HO_167001.out).2.1)
           rintro e w38 ⟨rfl, hb⟩
           refine ⟨_, rfl, ?_⟩
           have n0_ := Aside0.mk (Kd.R_below (by (with_reducible repeat (first | apply Kd.R_alloc | apply Kd.R_drewN | apply Kd.R_drew)); exact HO_167001.out) hb)
           have n1_ := Aside0.mk (blk_below (g := gb158) (o := .cells #[.string a0_0, .slice A0_1 l0_1.length c0_1] 24 (0, 0)) (by (with_reducible repeat (first | refine blk_drewN ?_ _ | refine blk_drew ?_ | refine blk_alloc ?_ _)); exact BK158.out) hb)
           have n2_ := Aside0.mk (blk_below (g := gb159) (o := .cells #[.bool a2_0, .int .i64 a2_1, .int .u32 a2_2, .int .i64 a2_3, .int .u32 a2_4, .int .i64 a2_5, .int .u32 a2_6, .int .u32 a2_7, .int .u32 a2_8, .int .u32 a2_9] 33 (0, 0)) (by (with_reducible repeat (first | refine blk_drewN ?_ _ | refine blk_drew ?_ | refine blk_alloc ?_ _)); exact BK159.out) hb)
           have n3_ := Aside0.mk (blk_below (g := gb166) (o := .cells #[.string a0_0, .slice Ao20 y163.length co20] 24 (0, 0)) (by (with_reducible repeat (first | refine blk_drewN ?_ _ | refine blk_drew ?_ | refine blk_alloc ?_ _)); exact BK166.out) hb)
           have n4_ := Aside0.mk (below_step (by repeat (first | (with_reducible first | exact HB.out | apply below_alloc | apply pw_below_drewN | apply below_drew1 | refine below_set ?_ GE158.out | refine below_set ?_ GE159.out | refine below_set ?_ GE166.out) | exact HB.out)) hb)
           clear HO_167001
           clear BK158
           clear BK159
           clear BK166
           clear HB
           have HO_167001 := n0_
           have BK158 := n1_
           have BK159 := n2_
           have BK166 := n3_
           have HB := n4_
           clear n0_ n1_ n2_ n3_ n4_
           (try clear hb)
           (try clear hb2)
           (try clear hk)
           (try clear hi)
           refine hK.out _ _ ⟨(blk_cell BK166.out 0).trans rfl, (blk_cell BK166.out 1).trans rfl, (pw_cell_below HB.out hw171_0), (pw_cell_below HB.out hw171_1), (pw_cell_below HB.out hw171_2), (pw_cell_below HB.out hw171_3), (pw_cell_below HB.out hw171_4)⟩ (fun hHeld => ?_)
           clear hK K
           refine norm_ (a' := ?_) ?_ ?_
           rotate_left
           ·show Act.put _ (some 51) _ = _
            simp only [Act.put, List.setIfInBounds_toArray, List.set_cons_zero, List.set_cons_succ, i64_w, i32_w]
            rfl
           refine pure_ (i := 6) (N := some 45) (v := ?_) (a' := ?_) #[true, true, true, true, true, true, true, false, false, false, false] rfl rfl (any_of HT_.out (by kernel_rfl)) (fun _ _ _ h => h) (Or.inl ⟨by rfl, ?_⟩) ?_ ?_
           rotate_left
           ·intro w'
            go_simp
            with_reducible rfl
           rotate_left
           ·simp only [Act.put, List.setIfInBounds_toArray, List.set_cons_zero, List.set_cons_succ, i64_w, i32_w]
            rfl
           refine pure_ (i := 7) (N := some 52) (v := ?_) (a' := ?_) #[true, true, true, true, true, true, true, true, false, false, false] rfl rfl (any_of HT_.out (by kernel_rfl)) (fun _ _ _ h => h) (Or.inl ⟨by rfl, ?_⟩) ?_ ?_
           rotate_left
           ·intro w'
            go_simp
            with_reducible rfl
           rotate_left
           ·simp only [Act.put, List.setIfInBounds_toArray, List.set_cons_zero, List.set_cons_succ, i64_w, i32_w]
            rfl
           refine pure_ (i := 8) (N := some 53) (v := ?_) (a' := ?_) #[true, true, true, true, true, true, true, true, true, false, false] rfl rfl (any_of HT_.out (by kernel_rfl)) (fun _ _ _ h => h) (Or.inl ⟨by rfl, ?_⟩) ?_ ?_
           rotate_left
           ·intro w'
            go_simp
            with_reducible rfl
           rotate_left
           ·simp only [Act.put, List.setIfInBounds_toArray, List.set_cons_zero, List.set_cons_succ, i64_w, i32_w]
            rfl
           refine pure_ (i := 9) (N := some 10) (v := ?_) (a' := ?_) #[true, true, true, true, true, true, true, true, true, true, false] rfl rfl (any_of HT_.out (by kernel_rfl)) (fun _ _ _ h => h) (Or.inl ⟨by rfl, ?_⟩) ?_ ?_
           rotate_left
           ·intro w'
            go_simp
            with_reducible rfl
           rotate_left
           ·simp only [Act.put, List.setIfInBounds_toArray, List.set_cons_zero, List.set_cons_succ, i64_w, i32_w]
            rfl
           refine pure_ (i := 10) (N := some 11) (v := ?_) (a' := ?_) #[true, true, true, true, true, true, true, true, true, true, true] rfl rfl (any_of HT_.out (by kernel_rfl)) (fun _ _ _ h => h) (Or.inl ⟨by rfl, ?_⟩) ?_ ?_
           rotate_left
           ·intro w'
            go_simp
            with_reducible rfl
           rotate_left
           ·simp only [Act.put, List.setIfInBounds_toArray, List.set_cons_zero, List.set_cons_succ, i64_w, i32_w]
            rfl
           refine done_ (done_of HT_.out (by kernel_rfl)) ?_
           try go_wp2
           have n0_ := Aside0.mk (Kd.R_drew HO_167001.out)
           have n1_ := Aside0.mk (blk_drew BK158.out)
           have n2_ := Aside0.mk (blk_drew BK159.out)
           have n3_ := Aside0.mk (blk_drew BK166.out)
           have n4_ := Aside0.mk (below_drew1 HB.out)
           clear HO_167001
           clear BK158
           clear BK159
           clear BK166
           clear HB
           have HO_167001 := n0_
           have BK158 := n1_
           have BK159 := n2_
           have BK166 := n3_
           have HB := n4_
           clear n0_ n1_ n2_ n3_ n4_
           have p174 : 0 ≤ (x9_1 : Int) := of_decide_eq_true (by first | (with_reducible assumption) | assumption)
           have q174 : x9_1 < (l1.length : Int) := of_decide_eq_true (by first | (with_reducible assumption) | assumption)
           obtain ⟨ad174, e174, hx174_0, hx174_1, hx174_2, hx174_3, hx174_4⟩ := at_T40 HR1.out x9_1 p174 q174
           have hw174_4 := hx174_4
           have hw174_3 := hx174_3
           have hw174_2 := hx174_2
           have hw174_1 := hx174_1
           have hw174_0 := hx174_0
           obtain rfl : ad171 = ad174 := (by injection e174)
           replace hx174_0 := pw_cell_below HB.out hx174_0
           replace hx174_1 := pw_cell_below HB.out hx174_1
           replace hx174_2 := pw_cell_below HB.out hx174_2
           replace hx174_3 := pw_cell_below HB.out hx174_3
           replace hx174_4 := pw_cell_below HB.out hx174_4
           replace p174 := eq_true p174
           replace q174 := eq_true q174
           refine start_ (n := 11) (S := fun w' => w'.cell? ⟨gb166, 0, none⟩ = some (.string a0_0) ∧ w'.cell? ⟨gb166, 1, none⟩ = some (.slice Ao20 y163.length co20) ∧ w'.cell? (ad171.add ((x9_1).toNat * 5)) = some (.int .u32 ((rd_T40 l1 x9_1).f0)) ∧ w'.cell? ⟨(ad171.add ((x9_1).toNat * 5)).block, (ad171.add ((x9_1).toNat * 5)).off + 1, none⟩ = some (.int .u32 ((rd_T40 l1 x9_1).f1)) ∧ w'.cell? ⟨(ad171.add ((x9_1).toNat * 5)).block, (ad171.add ((x9_1).toNat * 5)).off + 2, none⟩ = some (.int .u8 ((rd_T40 l1 x9_1).f2)) ∧ w'.cell? ⟨(ad171.add ((x9_1).toNat * 5)).block, (ad171.add ((x9_1).toNat * 5)).off + 3, none⟩ = some (.int .u16 ((rd_T40 l1 x9_1).f3)) ∧ w'.cell? ⟨(ad171.add ((x9_1).toNat * 5)).block, (ad171.add ((x9_1).toNat * 5)).off + 4, none⟩ = some (.int .u16 ((rd_T40 l1 x9_1).f4))) (ds := []) #[false, false, false, false, false, false, false, false, false, false, false] (by kernel_rfl) rfl rfl ⟨(blk_cell BK166.out 0).trans rfl, (blk_cell BK166.out 1).trans rfl, (pw_cell_below HB.out hw174_0), (pw_cell_below HB.out hw174_1), (pw_cell_below HB.out hw174_2), (pw_cell_below HB.out hw174_3), (pw_cell_below HB.out hw174_4)⟩ (fun hHeld => ?_); refine with_tabW waymarklaw10_FilterDecides_E.tab11 waymarklaw10_FilterDecides_E.bits11 (fun HT_ HW_ => ?_)
           generalize w38.drew = w39 at HO_167001 BK158 BK159 BK166 HB hx174_0 hx174_1 hx174_2 hx174_3 hx174_4 hHeld ⊢
           refine pure_ (i := 1) (N := some 56) (v := ?_) (a' := ?_) #[false, true, false, false, false, false, false, false, false, false, false] rfl rfl (any_of HT_.out (by kernel_rfl)) (fun _ _ _ h => h) (Or.inl ⟨by rfl, ?_⟩) ?_ ?_
           rotate_left
           ·intro w'
            go_simp
            with_reducible rfl
           rotate_left
           ·simp only [Act.put, List.setIfInBounds_toArray, List.set_cons_zero, List.set_cons_succ, i64_w, i32_w]
            rfl
           refine pure_ (i := 2) (N := some 57) (v := ?_) (a' := ?_) #[false, true, true, false, false, false, false, false, false, false, false] rfl rfl (any_of HT_.out (by kernel_rfl)) (fun _ _ _ h => h) (Or.inl ⟨by rfl, ?_⟩) ?_ ?_
           rotate_left
           ·intro w'
            go_simp
            with_reducible rfl
           rotate_left
           ·simp only [Act.put, List.setIfInBounds_toArray, List.set_cons_zero, List.set_cons_succ, i64_w, i32_w]
            rfl
           refine pure_ (i := 3) (N := some 58) (v := ?_) (a' := ?_) #[false, true, true, true, false, false, false, false, false, false, false] rfl rfl (any_of HT_.out (by kernel_rfl)) (fun _ _ _ h => h) (Or.inl ⟨by rfl, ?_⟩) ?_ ?_
           rotate_left
           ·intro w'
            go_simp
            with_reducible rfl
           rotate_left
           ·simp only [Act.put, List.setIfInBounds_toArray, List.set_cons_zero, List.set_cons_succ, i64_w, i32_w]
            rfl
           refine take_ (i := 0) (N := some 55) (v := ?_) (a' := ?_) #[true, true, true, true, false, false, false, false, false, false, false] rfl rfl (take_ofW HT_.out HW_.out (by kernel_rfl)) (fun _ _ _ h => h) (Or.inl ⟨by rfl, ?_⟩) hHeld ?_ ?_
           rotate_left
           ·rintro w' ⟨s0, s1, s2, s3, s4, s5, s6⟩
            go_simp
            with_reducible rfl
           rotate_left
           ·simp only [Act.put, List.setIfInBounds_toArray, List.set_cons_zero, List.set_cons_succ, i64_w, i32_w]
            rfl
           refine take_ (i := 4) (N := some 59) (v := ?_) (a' := ?_) #[true, true, true, true, true, false, false, false, false, false, false] rfl rfl (take_ofW HT_.out HW_.out (by kernel_rfl)) (fun _ _ _ h => h) (Or.inl ⟨by rfl, ?_⟩) hHeld ?_ ?_
           rotate_left
           ·rintro w' ⟨s0, s1, s2, s3, s4, s5, s6⟩
            go_simp
            with_reducible rfl
           rotate_left
           ·simp only [Act.put, List.setIfInBounds_toArray, List.set_cons_zero, List.set_cons_succ, i64_w, i32_w]
            rfl
           refine one_ (i := 5) (N := some 60) #[true, true, true, true, true, true, false, false, false, false, false] rfl rfl (one_of HT_.out (by kernel_rfl)) (by decide) (fun K hK => ?_)
           refine goes_ Try.func15 (by kernel_rfl) rfl #[.agg #[.string a0_0, .slice Ao20 y163.length co20], .agg #[.int .u32 ((rd_T40 l1 x9_1).f0), .int .u32 ((rd_T40 l1 x9_1).f1), .int .u8 ((rd_T40 l1 x9_1).f2), .int .u16 ((rd_T40 l1 x9_1).f3), .int .u16 ((rd_T40 l1 x9_1).f4)]] (by rfl) rfl rfl (by (try simp only [List.map_toArray, List.map_cons, List.map_nil]); first | done | rfl | (simp only [List.length_drop, List.length_take]; rfl)) ?_
           with_reducible refine (filter_Permits.calls a0_0 _ _ y163 ((rd_T40 l1 x9_1).f0) ((rd_T40 l1 x9_1).f1) ((rd_T40 l1 x9_1).f2) ((rd_T40 l1 x9_1).f3) ((rd_T40 l1 x9_1).f4) t175 t176 _ ?side1 ?side2 A35.out).mono ?_
           (case side1 => repeat (first | exact (Kd.R_reads' HO_167001.out).2.2 | (with_reducible refine Kd.C_alloc ?_ _) | (with_reducible refine Kd.C_drewN ?_ _) | (with_reducible refine Kd.C_drew ?_)))
           (case side2 => exact (Kd.R_reads' HO_167001.out).2.1)
           rintro e w40 ⟨rfl, hb⟩
           refine ⟨_, rfl, ?_⟩
           have n0_ := Aside0.mk (Kd.R_below (by (with_reducible repeat (first | apply Kd.R_alloc | apply Kd.R_drewN | apply Kd.R_drew)); exact HO_167001.out) hb)
           have n1_ := Aside0.mk (blk_below (g := gb158) (o := .cells #[.string a0_0, .slice A0_1 l0_1.length c0_1] 24 (0, 0)) (by (with_reducible repeat (first | refine blk_drewN ?_ _ | refine blk_drew ?_ | refine blk_alloc ?_ _)); exact BK158.out) hb)
           have n2_ := Aside0.mk (blk_below (g := gb159) (o := .cells #[.bool a2_0, .int .i64 a2_1, .int .u32 a2_2, .int .i64 a2_3, .int .u32 a2_4, .int .i64 a2_5, .int .u32 a2_6, .int .u32 a2_7, .int .u32 a2_8, .int .u32 a2_9] 33 (0, 0)) (by (with_reducible repeat (first | refine blk_drewN ?_ _ | refine blk_drew ?_ | refine blk_alloc ?_ _)); exact BK159.out) hb)
           have n3_ := Aside0.mk (blk_below (g := gb166) (o := .cells #[.string a0_0, .slice Ao20 y163.length co20] 24 (0, 0)) (by (with_reducible repeat (first | refine blk_drewN ?_ _ | refine blk_drew ?_ | refine blk_alloc ?_ _)); exact BK166.out) hb)
           have n4_ := Aside0.mk (below_step (by repeat (first | (with_reducible first | exact HB.out | apply below_alloc | apply pw_below_drewN | apply below_drew1 | refine below_set ?_ GE158.out | refine below_set ?_ GE159.out | refine below_set ?_ GE166.out) | exact HB.out)) hb)
           clear HO_167001
           clear BK158
           clear BK159
           clear BK166
           clear HB
           have HO_167001 := n0_
           have BK158 := n1_
           have BK159 := n2_
           have BK166 := n3_
           have HB := n4_
           clear n0_ n1_ n2_ n3_ n4_
           (try clear hb)
           (try clear hb2)
           (try clear hk)
           (try clear hi)
           refine hK.out _ _ ⟨(blk_cell BK166.out 0).trans rfl, (blk_cell BK166.out 1).trans rfl, (pw_cell_below HB.out hw174_0), (pw_cell_below HB.out hw174_1), (pw_cell_below HB.out hw174_2), (pw_cell_below HB.out hw174_3), (pw_cell_below HB.out hw174_4)⟩ (fun hHeld => ?_)
           clear hK K
           refine norm_ (a' := ?_) ?_ ?_
           rotate_left
           ·show Act.put _ (some 60) _ = _
            simp only [Act.put, List.setIfInBounds_toArray, List.set_cons_zero, List.set_cons_succ, i64_w, i32_w]
            rfl
           refine pure_ (i := 6) (N := some 54) (v := ?_) (a' := ?_) #[true, true, true, true, true, true, true, false, false, false, false] rfl rfl (any_of HT_.out (by kernel_rfl)) (fun _ _ _ h => h) (Or.inl ⟨by rfl, ?_⟩) ?_ ?_
           rotate_left
           ·intro w'
            go_simp
            with_reducible rfl
           rotate_left
           ·simp only [Act.put, List.setIfInBounds_toArray, List.set_cons_zero, List.set_cons_succ, i64_w, i32_w]
            rfl
           refine pure_ (i := 7) (N := some 61) (v := ?_) (a' := ?_) #[true, true, true, true, true, true, true, true, false, false, false] rfl rfl (any_of HT_.out (by kernel_rfl)) (fun _ _ _ h => h) (Or.inl ⟨by rfl, ?_⟩) ?_ ?_
           rotate_left
           ·intro w'
            go_simp
            with_reducible rfl
           rotate_left
           ·simp only [Act.put, List.setIfInBounds_toArray, List.set_cons_zero, List.set_cons_succ, i64_w, i32_w]
            rfl
           refine pure_ (i := 8) (N := some 62) (v := ?_) (a' := ?_) #[true, true, true, true, true, true, true, true, true, false, false] rfl rfl (any_of HT_.out (by kernel_rfl)) (fun _ _ _ h => h) (Or.inl ⟨by rfl, ?_⟩) ?_ ?_
           rotate_left
           ·intro w'
            go_simp
            with_reducible rfl
           rotate_left
           ·simp only [Act.put, List.setIfInBounds_toArray, List.set_cons_zero, List.set_cons_succ, i64_w, i32_w]
            rfl
           refine pure_ (i := 9) (N := some 12) (v := ?_) (a' := ?_) #[true, true, true, true, true, true, true, true, true, true, false] rfl rfl (any_of HT_.out (by kernel_rfl)) (fun _ _ _ h => h) (Or.inl ⟨by rfl, ?_⟩) ?_ ?_
           rotate_left
           ·intro w'
            go_simp
            with_reducible rfl
           rotate_left
           ·simp only [Act.put, List.setIfInBounds_toArray, List.set_cons_zero, List.set_cons_succ, i64_w, i32_w]
            rfl
           refine pure_ (i := 10) (N := some 13) (v := ?_) (a' := ?_) #[true, true, true, true, true, true, true, true, true, true, true] rfl rfl (any_of HT_.out (by kernel_rfl)) (fun _ _ _ h => h) (Or.inl ⟨by rfl, ?_⟩) ?_ ?_
           rotate_left
           ·intro w'
            go_simp
            with_reducible rfl
           rotate_left
           ·simp only [Act.put, List.setIfInBounds_toArray, List.set_cons_zero, List.set_cons_succ, i64_w, i32_w]
            rfl
           refine done_ (done_of HT_.out (by kernel_rfl)) ?_
           go_upto_region 12 with (fail)
           go_cut [85] (fun v85 wc => ∃ (kq : Nat) (x85_35 : Bool), v85 = .bool x85_35 ∧ Aside0 (waymarklaw10_FilterDecides_E.j2 kq l1 t167 x9_1 t172 t175 x85_35 a0_0 l0_1 a2_0 a2_1 a2_2 a2_3 a2_4 a2_5 a2_6 a2_7 a2_8 a2_9 a0_0 y163 = some r) ∧ Aside0 (kq ≤ kj28) ∧ Aside0 (Kd.R k33 33 wc w.heap.size (fun k_ => k_ ≠ gb159) (.slice Ao20 y163.length co20) y163) ∧ Aside0 (wc.heap[gb158]? = some (.cells #[.string a0_0, (.slice A0_1 l0_1.length c0_1)] 24 (0, 0))) ∧ Aside0 (wc.heap[gb159]? = some (.cells #[.bool a2_0, .int .i64 a2_1, .int .u32 a2_2, .int .i64 a2_3, .int .u32 a2_4, .int .i64 a2_5, .int .u32 a2_6, .int .u32 a2_7, .int .u32 a2_8, .int .u32 a2_9] 33 (0, 0))) ∧ Aside0 (wc.heap[gb166]? = some (.cells #[.string a0_0, (.slice Ao20 y163.length co20)] 24 (0, 0))) ∧ Aside0 (Below w.heap.size w wc))
           case first =>
            have H := HC36.out
            clear HC36
            replace H := Option.bind_eq_some_iff.mp H
            obtain ⟨t178, A410, H⟩ := H
            replace H : ((waymarkref10_Fits.f kj28 a2_0 a2_1 a2_2 a2_3 a2_4 a2_5 a2_6 a2_7 a2_8 a2_9 ((rd_T40 l1 x9_1).f0) ((rd_T40 l1 x9_1).f1) ((rd_T40 l1 x9_1).f2) ((rd_T40 l1 x9_1).f3) ((rd_T40 l1 x9_1).f4)).bind fun t180 => (if (t178 != t180) = true then (waymarklaw10_FilterDecides_E.j2 kj28 l1 t167 x9_1 t172 t175 true a0_0 l0_1 a2_0 a2_1 a2_2 a2_3 a2_4 a2_5 a2_6 a2_7 a2_8 a2_9 a0_0 y163) else (if t173 = t167 then (waymarklaw10_FilterDecides_E.j2 kj28 l1 t167 x9_1 t172 t175 (t176 != t167) a0_0 l0_1 a2_0 a2_1 a2_2 a2_3 a2_4 a2_5 a2_6 a2_7 a2_8 a2_9 a0_0 y163) else (waymarklaw10_FilterDecides_E.j2 kj28 l1 t167 x9_1 t172 t175 true a0_0 l0_1 a2_0 a2_1 a2_2 a2_3 a2_4 a2_5 a2_6 a2_7 a2_8 a2_9 a0_0 y163)))) = some r := H
            have A41 := Aside0.mk A410
            clear A410
            replace H := Option.bind_eq_some_iff.mp H
            obtain ⟨t180, A420, H⟩ := H
            replace H : (if (t178 != t180) = true then (waymarklaw10_FilterDecides_E.j2 kj28 l1 t167 x9_1 t172 t175 true a0_0 l0_1 a2_0 a2_1 a2_2 a2_3 a2_4 a2_5 a2_6 a2_7 a2_8 a2_9 a0_0 y163) else (if t173 = t167 then (waymarklaw10_FilterDecides_E.j2 kj28 l1 t167 x9_1 t172 t175 (t176 != t167) a0_0 l0_1 a2_0 a2_1 a2_2 a2_3 a2_4 a2_5 a2_6 a2_7 a2_8 a2_9 a0_0 y163) else (waymarklaw10_FilterDecides_E.j2 kj28 l1 t167 x9_1 t172 t175 true a0_0 l0_1 a2_0 a2_1 a2_2 a2_3 a2_4 a2_5 a2_6 a2_7 a2_8 a2_9 a0_0 y163))) = some r := H
            have A42 := Aside0.mk A420
            clear A420
            by_cases c43 : (t178 != t180) = true
            ·rw [if_pos c43] at H
             have c43b0 : (t178 != t180) = true := c43
             (try (have c43b1 : decide (t178 = t180) = false := by simpa using c43))
             (try (have c43b2 : (t178 == t180) = false := by simpa using c43))
             (try (have c43b3 : ¬ (t178 = t180) := by simpa using c43))
             clear c43
             (first | rw [c43b0] | (simp only [i64_w, i32_w]; rw [c43b0]) | skip)
             have H' := Aside0.mk H
             clear H
             try go_wp2
             have n0_ := Aside0.mk (Kd.R_drew HO_167001.out)
             have n1_ := Aside0.mk (blk_drew BK158.out)
             have n2_ := Aside0.mk (blk_drew BK159.out)
             have n3_ := Aside0.mk (blk_drew BK166.out)
             have n4_ := Aside0.mk (below_drew1 HB.out)
             clear HO_167001
             clear BK158
             clear BK159
             clear BK166
             clear HB
             have HO_167001 := n0_
             have BK158 := n1_
             have BK159 := n2_
             have BK166 := n3_
             have HB := n4_
             clear n0_ n1_ n2_ n3_ n4_
             have p177 : 0 ≤ (x9_1 : Int) := of_decide_eq_true (by first | (with_reducible assumption) | assumption)
             have q177 : x9_1 < (l1.length : Int) := of_decide_eq_true (by first | (with_reducible assumption) | assumption)
             obtain ⟨ad177, e177, hx177_0, hx177_1, hx177_2, hx177_3, hx177_4⟩ := at_T40 HR1.out x9_1 p177 q177
             have hw177_4 := hx177_4
             have hw177_3 := hx177_3
             have hw177_2 := hx177_2
             have hw177_1 := hx177_1
             have hw177_0 := hx177_0
             obtain rfl : ad171 = ad177 := (by injection e177)
             replace hx177_0 := pw_cell_below HB.out hx177_0
             replace hx177_1 := pw_cell_below HB.out hx177_1
             replace hx177_2 := pw_cell_below HB.out hx177_2
             replace hx177_3 := pw_cell_below HB.out hx177_3
             replace hx177_4 := pw_cell_below HB.out hx177_4
             replace p177 := eq_true p177
             replace q177 := eq_true q177
             have p179 : 0 ≤ (x9_1 : Int) := of_decide_eq_true (by first | (with_reducible assumption) | assumption)
             have q179 : x9_1 < (l1.length : Int) := of_decide_eq_true (by first | (with_reducible assumption) | assumption)
             obtain ⟨ad179, e179, hx179_0, hx179_1, hx179_2, hx179_3, hx179_4⟩ := at_T40 HR1.out x9_1 p179 q179
             have hw179_4 := hx179_4
             have hw179_3 := hx179_3
             have hw179_2 := hx179_2
             have hw179_1 := hx179_1
             have hw179_0 := hx179_0
             obtain rfl : ad171 = ad179 := (by injection e179)
             replace hx179_0 := pw_cell_below HB.out hx179_0
             replace hx179_1 := pw_cell_below HB.out hx179_1
             replace hx179_2 := pw_cell_below HB.out hx179_2
             replace hx179_3 := pw_cell_below HB.out hx179_3
             replace hx179_4 := pw_cell_below HB.out hx179_4
             replace p179 := eq_true p179
             replace q179 := eq_true q179
             refine start_ (n := 23) (S := fun w' => w'.cell? ⟨gb159, 0, none⟩ = some (.bool a2_0) ∧ w'.cell? ⟨gb159, 1, none⟩ = some (.int .i64 a2_1) ∧ w'.cell? ⟨gb159, 2, none⟩ = some (.int .u32 a2_2) ∧ w'.cell? ⟨gb159, 3, none⟩ = some (.int .i64 a2_3) ∧ w'.cell? ⟨gb159, 4, none⟩ = some (.int .u32 a2_4) ∧ w'.cell? ⟨gb159, 5, none⟩ = some (.int .i64 a2_5) ∧ w'.cell? ⟨gb159, 6, none⟩ = some (.int .u32 a2_6) ∧ w'.cell? ⟨gb159, 7, none⟩ = some (.int .u32 a2_7) ∧ w'.cell? ⟨gb159, 8, none⟩ = some (.int .u32 a2_8) ∧ w'.cell? ⟨gb159, 9, none⟩ = some (.int .u32 a2_9) ∧ w'.cell? (ad171.add ((x9_1).toNat * 5)) = some (.int .u32 ((rd_T40 l1 x9_1).f0)) ∧ w'.cell? ⟨(ad171.add ((x9_1).toNat * 5)).block, (ad171.add ((x9_1).toNat * 5)).off + 1, none⟩ = some (.int .u32 ((rd_T40 l1 x9_1).f1)) ∧ w'.cell? ⟨(ad171.add ((x9_1).toNat * 5)).block, (ad171.add ((x9_1).toNat * 5)).off + 2, none⟩ = some (.int .u8 ((rd_T40 l1 x9_1).f2)) ∧ w'.cell? ⟨(ad171.add ((x9_1).toNat * 5)).block, (ad171.add ((x9_1).toNat * 5)).off + 3, none⟩ = some (.int .u16 ((rd_T40 l1 x9_1).f3)) ∧ w'.cell? ⟨(ad171.add ((x9_1).toNat * 5)).block, (ad171.add ((x9_1).toNat * 5)).off + 4, none⟩ = some (.int .u16 ((rd_T40 l1 x9_1).f4)) ∧ w'.cell? (ad171.add ((x9_1).toNat * 5)) = some (.int .u32 ((rd_T40 l1 x9_1).f0)) ∧ w'.cell? ⟨(ad171.add ((x9_1).toNat * 5)).block, (ad171.add ((x9_1).toNat * 5)).off + 1, none⟩ = some (.int .u32 ((rd_T40 l1 x9_1).f1)) ∧ w'.cell? ⟨(ad171.add ((x9_1).toNat * 5)).block, (ad171.add ((x9_1).toNat * 5)).off + 2, none⟩ = some (.int .u8 ((rd_T40 l1 x9_1).f2)) ∧ w'.cell? ⟨(ad171.add ((x9_1).toNat * 5)).block, (ad171.add ((x9_1).toNat * 5)).off + 3, none⟩ = some (.int .u16 ((rd_T40 l1 x9_1).f3)) ∧ w'.cell? ⟨(ad171.add ((x9_1).toNat * 5)).block, (ad171.add ((x9_1).toNat * 5)).off + 4, none⟩ = some (.int .u16 ((rd_T40 l1 x9_1).f4))) (ds := []) #[false, false, false, false, false, false, false, false, false, false, false, false, false, false, false, false, false, false, false, false, false, false, false] (by kernel_rfl) rfl rfl ⟨(blk_cell BK159.out 0).trans rfl, (blk_cell BK159.out 1).trans rfl, (blk_cell BK159.out 2).trans rfl, (blk_cell BK159.out 3).trans rfl, (blk_cell BK159.out 4).trans rfl, (blk_cell BK159.out 5).trans rfl, (blk_cell BK159.out 6).trans rfl, (blk_cell BK159.out 7).trans rfl, (blk_cell BK159.out 8).trans rfl, (blk_cell BK159.out 9).trans rfl, (pw_cell_below HB.out hw177_0), (pw_cell_below HB.out hw177_1), (pw_cell_below HB.out hw177_2), (pw_cell_below HB.out hw177_3), (pw_cell_below HB.out hw177_4), (pw_cell_below HB.out hw179_0), (pw_cell_below HB.out hw179_1), (pw_cell_below HB.out hw179_2), (pw_cell_below HB.out hw179_3), (pw_cell_below HB.out hw179_4)⟩ (fun hHeld => ?_); refine with_tabW waymarklaw10_FilterDecides_E.tab12 waymarklaw10_FilterDecides_E.bits12 (fun HT_ HW_ => ?_)
             generalize w40.drew = w44 at HO_167001 BK158 BK159 BK166 HB hx177_0 hx177_1 hx177_2 hx177_3 hx177_4 hx179_0 hx179_1 hx179_2 hx179_3 hx179_4 hHeld ⊢
             refine pure_ (i := 1) (N := some 64) (v := ?_) (a' := ?_) #[false, true, false, false, false, false, false, false, false, false, false, false, false, false, false, false, false, false, false, false, false, false, false] rfl rfl (any_of HT_.out (by kernel_rfl)) (fun _ _ _ h => h) (Or.inl ⟨by rfl, ?_⟩) ?_ ?_
             rotate_left
             ·intro w'
              go_simp
              with_reducible rfl
             rotate_left
             ·simp only [Act.put, List.setIfInBounds_toArray, List.set_cons_zero, List.set_cons_succ, i64_w, i32_w]
              rfl
             refine pure_ (i := 2) (N := some 65) (v := ?_) (a' := ?_) #[false, true, true, false, false, false, false, false, false, false, false, false, false, false, false, false, false, false, false, false, false, false, false] rfl rfl (any_of HT_.out (by kernel_rfl)) (fun _ _ _ h => h) (Or.inl ⟨by rfl, ?_⟩) ?_ ?_
             rotate_left
             ·intro w'
              go_simp
              with_reducible rfl
             rotate_left
             ·simp only [Act.put, List.setIfInBounds_toArray, List.set_cons_zero, List.set_cons_succ, i64_w, i32_w]
              rfl
             refine pure_ (i := 3) (N := some 66) (v := ?_) (a' := ?_) #[false, true, true, true, false, false, false, false, false, false, false, false, false, false, false, false, false, false, false, false, false, false, false] rfl rfl (any_of HT_.out (by kernel_rfl)) (fun _ _ _ h => h) (Or.inl ⟨by rfl, ?_⟩) ?_ ?_
             rotate_left
             ·intro w'
              go_simp
              with_reducible rfl
             rotate_left
             ·simp only [Act.put, List.setIfInBounds_toArray, List.set_cons_zero, List.set_cons_succ, i64_w, i32_w]
              rfl
             refine pure_ (i := 7) (N := some 70) (v := ?_) (a' := ?_) #[false, true, true, true, false, false, false, true, false, false, false, false, false, false, false, false, false, false, false, false, false, false, false] rfl rfl (any_of HT_.out (by kernel_rfl)) (fun _ _ _ h => h) (Or.inl ⟨by rfl, ?_⟩) ?_ ?_
             rotate_left
             ·intro w'
              go_simp
              with_reducible rfl
             rotate_left
             ·simp only [Act.put, List.setIfInBounds_toArray, List.set_cons_zero, List.set_cons_succ, i64_w, i32_w]
              rfl
             refine pure_ (i := 8) (N := some 71) (v := ?_) (a' := ?_) #[false, true, true, true, false, false, false, true, true, false, false, false, false, false, false, false, false, false, false, false, false, false, false] rfl rfl (any_of HT_.out (by kernel_rfl)) (fun _ _ _ h => h) (Or.inl ⟨by rfl, ?_⟩) ?_ ?_
             rotate_left
             ·intro w'
              go_simp
              with_reducible rfl
             rotate_left
             ·simp only [Act.put, List.setIfInBounds_toArray, List.set_cons_zero, List.set_cons_succ, i64_w, i32_w]
              rfl
             refine pure_ (i := 9) (N := some 72) (v := ?_) (a' := ?_) #[false, true, true, true, false, false, false, true, true, true, false, false, false, false, false, false, false, false, false, false, false, false, false] rfl rfl (any_of HT_.out (by kernel_rfl)) (fun _ _ _ h => h) (Or.inl ⟨by rfl, ?_⟩) ?_ ?_
             rotate_left
             ·intro w'
              go_simp
              with_reducible rfl
             rotate_left
             ·simp only [Act.put, List.setIfInBounds_toArray, List.set_cons_zero, List.set_cons_succ, i64_w, i32_w]
              rfl
             refine take_ (i := 0) (N := some 63) (v := ?_) (a' := ?_) #[true, true, true, true, false, false, false, true, true, true, false, false, false, false, false, false, false, false, false, false, false, false, false] rfl rfl (take_ofW HT_.out HW_.out (by kernel_rfl)) (fun _ _ _ h => h) (Or.inl ⟨by rfl, ?_⟩) hHeld ?_ ?_
             rotate_left
             ·rintro w' ⟨s0, s1, s2, s3, s4, s5, s6, s7, s8, s9, s10, s11, s12, s13, s14, s15, s16, s17, s18, s19⟩
              go_simp
              with_reducible rfl
             rotate_left
             ·simp only [Act.put, List.setIfInBounds_toArray, List.set_cons_zero, List.set_cons_succ, i64_w, i32_w]
              rfl
             refine take_ (i := 4) (N := some 67) (v := ?_) (a' := ?_) #[true, true, true, true, true, false, false, true, true, true, false, false, false, false, false, false, false, false, false, false, false, false, false] rfl rfl (take_ofW HT_.out HW_.out (by kernel_rfl)) (fun _ _ _ h => h) (Or.inl ⟨by rfl, ?_⟩) hHeld ?_ ?_
             rotate_left
             ·rintro w' ⟨s0, s1, s2, s3, s4, s5, s6, s7, s8, s9, s10, s11, s12, s13, s14, s15, s16, s17, s18, s19⟩
              go_simp
              with_reducible rfl
             rotate_left
             ·simp only [Act.put, List.setIfInBounds_toArray, List.set_cons_zero, List.set_cons_succ, i64_w, i32_w]
              rfl
             refine take_ (i := 6) (N := some 69) (v := ?_) (a' := ?_) #[true, true, true, true, true, false, true, true, true, true, false, false, false, false, false, false, false, false, false, false, false, false, false] rfl rfl (take_ofW HT_.out HW_.out (by kernel_rfl)) (fun _ _ _ h => h) (Or.inl ⟨by rfl, ?_⟩) hHeld ?_ ?_
             rotate_left
             ·rintro w' ⟨s0, s1, s2, s3, s4, s5, s6, s7, s8, s9, s10, s11, s12, s13, s14, s15, s16, s17, s18, s19⟩
              go_simp
              with_reducible rfl
             rotate_left
             ·simp only [Act.put, List.setIfInBounds_toArray, List.set_cons_zero, List.set_cons_succ, i64_w, i32_w]
              rfl
             refine take_ (i := 10) (N := some 73) (v := ?_) (a' := ?_) #[true, true, true, true, true, false, true, true, true, true, true, false, false, false, false, false, false, false, false, false, false, false, false] rfl rfl (take_ofW HT_.out HW_.out (by kernel_rfl)) (fun _ _ _ h => h) (Or.inl ⟨by rfl, ?_⟩) hHeld ?_ ?_
             rotate_left
             ·rintro w' ⟨s0, s1, s2, s3, s4, s5, s6, s7, s8, s9, s10, s11, s12, s13, s14, s15, s16, s17, s18, s19⟩
              go_simp
              with_reducible rfl
             rotate_left
             ·simp only [Act.put, List.setIfInBounds_toArray, List.set_cons_zero, List.set_cons_succ, i64_w, i32_w]
              rfl
             refine one_ (i := 5) (N := some 68) #[true, true, true, true, true, true, true, true, true, true, true, false, false, false, false, false, false, false, false, false, false, false, false] rfl rfl (one_of HT_.out (by kernel_rfl)) (by decide) (fun K hK => ?_)
             refine goes_ Try.func16 (by kernel_rfl) rfl #[.agg #[.bool a2_0, .int .i64 a2_1, .int .u32 a2_2, .int .i64 a2_3, .int .u32 a2_4, .int .i64 a2_5, .int .u32 a2_6, .int .u32 a2_7, .int .u32 a2_8, .int .u32 a2_9], .agg #[.int .u32 ((rd_T40 l1 x9_1).f0), .int .u32 ((rd_T40 l1 x9_1).f1), .int .u8 ((rd_T40 l1 x9_1).f2), .int .u16 ((rd_T40 l1 x9_1).f3), .int .u16 ((rd_T40 l1 x9_1).f4)]] (by rfl) rfl rfl (by (try simp only [List.map_toArray, List.map_cons, List.map_nil]); first | done | rfl | (simp only [List.length_drop, List.length_take]; rfl)) ?_
             with_reducible refine (filter_Fits.calls kj28 a2_0 a2_1 a2_2 a2_3 a2_4 a2_5 a2_6 a2_7 a2_8 a2_9 ((rd_T40 l1 x9_1).f0) ((rd_T40 l1 x9_1).f1) ((rd_T40 l1 x9_1).f2) ((rd_T40 l1 x9_1).f3) ((rd_T40 l1 x9_1).f4) t178 _ A41.out).mono ?_
             rintro e w45 ⟨rfl, hb⟩
             refine ⟨_, rfl, ?_⟩
             have n0_ := Aside0.mk (Kd.R_below (by (with_reducible repeat (first | apply Kd.R_alloc | apply Kd.R_drewN | apply Kd.R_drew)); exact HO_167001.out) hb)
             have n1_ := Aside0.mk (blk_below (g := gb158) (o := .cells #[.string a0_0, .slice A0_1 l0_1.length c0_1] 24 (0, 0)) (by (with_reducible repeat (first | refine blk_drewN ?_ _ | refine blk_drew ?_ | refine blk_alloc ?_ _)); exact BK158.out) hb)
             have n2_ := Aside0.mk (blk_below (g := gb159) (o := .cells #[.bool a2_0, .int .i64 a2_1, .int .u32 a2_2, .int .i64 a2_3, .int .u32 a2_4, .int .i64 a2_5, .int .u32 a2_6, .int .u32 a2_7, .int .u32 a2_8, .int .u32 a2_9] 33 (0, 0)) (by (with_reducible repeat (first | refine blk_drewN ?_ _ | refine blk_drew ?_ | refine blk_alloc ?_ _)); exact BK159.out) hb)
             have n3_ := Aside0.mk (blk_below (g := gb166) (o := .cells #[.string a0_0, .slice Ao20 y163.length co20] 24 (0, 0)) (by (with_reducible repeat (first | refine blk_drewN ?_ _ | refine blk_drew ?_ | refine blk_alloc ?_ _)); exact BK166.out) hb)
             have n4_ := Aside0.mk (below_step (by repeat (first | (with_reducible first | exact HB.out | apply below_alloc | apply pw_below_drewN | apply below_drew1 | refine below_set ?_ GE158.out | refine below_set ?_ GE159.out | refine below_set ?_ GE166.out) | exact HB.out)) hb)
             clear HO_167001
             clear BK158
             clear BK159
             clear BK166
             clear HB
             have HO_167001 := n0_
             have BK158 := n1_
             have BK159 := n2_
             have BK166 := n3_
             have HB := n4_
             clear n0_ n1_ n2_ n3_ n4_
             (try clear hb)
             (try clear hb2)
             (try clear hk)
             (try clear hi)
             refine hK.out _ _ ⟨(blk_cell BK159.out 0).trans rfl, (blk_cell BK159.out 1).trans rfl, (blk_cell BK159.out 2).trans rfl, (blk_cell BK159.out 3).trans rfl, (blk_cell BK159.out 4).trans rfl, (blk_cell BK159.out 5).trans rfl, (blk_cell BK159.out 6).trans rfl, (blk_cell BK159.out 7).trans rfl, (blk_cell BK159.out 8).trans rfl, (blk_cell BK159.out 9).trans rfl, (pw_cell_below HB.out hw177_0), (pw_cell_below HB.out hw177_1), (pw_cell_below HB.out hw177_2), (pw_cell_below HB.out hw177_3), (pw_cell_below HB.out hw177_4), (pw_cell_below HB.out hw179_0), (pw_cell_below HB.out hw179_1), (pw_cell_below HB.out hw179_2), (pw_cell_below HB.out hw179_3), (pw_cell_below HB.out hw179_4)⟩ (fun hHeld => ?_)
             clear hK K
             refine norm_ (a' := ?_) ?_ ?_
             rotate_left
             ·show Act.put _ (some 68) _ = _
              simp only [Act.put, List.setIfInBounds_toArray, List.set_cons_zero, List.set_cons_succ, i64_w, i32_w]
              rfl
             refine one_ (i := 11) (N := some 74) #[true, true, true, true, true, true, true, true, true, true, true, true, false, false, false, false, false, false, false, false, false, false, false] rfl rfl (one_of HT_.out (by kernel_rfl)) (by decide) (fun K hK => ?_)
             refine goes_ Try.func17 (by kernel_rfl) rfl #[.agg #[.bool a2_0, .int .i64 a2_1, .int .u32 a2_2, .int .i64 a2_3, .int .u32 a2_4, .int .i64 a2_5, .int .u32 a2_6, .int .u32 a2_7, .int .u32 a2_8, .int .u32 a2_9], .agg #[.int .u32 ((rd_T40 l1 x9_1).f0), .int .u32 ((rd_T40 l1 x9_1).f1), .int .u8 ((rd_T40 l1 x9_1).f2), .int .u16 ((rd_T40 l1 x9_1).f3), .int .u16 ((rd_T40 l1 x9_1).f4)]] (by rfl) rfl rfl (by (try simp only [List.map_toArray, List.map_cons, List.map_nil]); first | done | rfl | (simp only [List.length_drop, List.length_take]; rfl)) ?_
             with_reducible refine (waymarkref10_Fits.calls kj28 a2_0 a2_1 a2_2 a2_3 a2_4 a2_5 a2_6 a2_7 a2_8 a2_9 ((rd_T40 l1 x9_1).f0) ((rd_T40 l1 x9_1).f1) ((rd_T40 l1 x9_1).f2) ((rd_T40 l1 x9_1).f3) ((rd_T40 l1 x9_1).f4) t180 _ A42.out).mono ?_
             rintro e w46 ⟨rfl, hb⟩
             refine ⟨_, rfl, ?_⟩
             have n0_ := Aside0.mk (Kd.R_below (by (with_reducible repeat (first | apply Kd.R_alloc | apply Kd.R_drewN | apply Kd.R_drew)); exact HO_167001.out) hb)
             have n1_ := Aside0.mk (blk_below (g := gb158) (o := .cells #[.string a0_0, .slice A0_1 l0_1.length c0_1] 24 (0, 0)) (by (with_reducible repeat (first | refine blk_drewN ?_ _ | refine blk_drew ?_ | refine blk_alloc ?_ _)); exact BK158.out) hb)
             have n2_ := Aside0.mk (blk_below (g := gb159) (o := .cells #[.bool a2_0, .int .i64 a2_1, .int .u32 a2_2, .int .i64 a2_3, .int .u32 a2_4, .int .i64 a2_5, .int .u32 a2_6, .int .u32 a2_7, .int .u32 a2_8, .int .u32 a2_9] 33 (0, 0)) (by (with_reducible repeat (first | refine blk_drewN ?_ _ | refine blk_drew ?_ | refine blk_alloc ?_ _)); exact BK159.out) hb)
             have n3_ := Aside0.mk (blk_below (g := gb166) (o := .cells #[.string a0_0, .slice Ao20 y163.length co20] 24 (0, 0)) (by (with_reducible repeat (first | refine blk_drewN ?_ _ | refine blk_drew ?_ | refine blk_alloc ?_ _)); exact BK166.out) hb)
             have n4_ := Aside0.mk (below_step (by repeat (first | (with_reducible first | exact HB.out | apply below_alloc | apply pw_below_drewN | apply below_drew1 | refine below_set ?_ GE158.out | refine below_set ?_ GE159.out | refine below_set ?_ GE166.out) | exact HB.out)) hb)
             clear HO_167001
             clear BK158
             clear BK159
             clear BK166
             clear HB
             have HO_167001 := n0_
             have BK158 := n1_
             have BK159 := n2_
             have BK166 := n3_
             have HB := n4_
             clear n0_ n1_ n2_ n3_ n4_
             (try clear hb)
             (try clear hb2)
             (try clear hk)
             (try clear hi)
             refine hK.out _ _ ⟨(blk_cell BK159.out 0).trans rfl, (blk_cell BK159.out 1).trans rfl, (blk_cell BK159.out 2).trans rfl, (blk_cell BK159.out 3).trans rfl, (blk_cell BK159.out 4).trans rfl, (blk_cell BK159.out 5).trans rfl, (blk_cell BK159.out 6).trans rfl, (blk_cell BK159.out 7).trans rfl, (blk_cell BK159.out 8).trans rfl, (blk_cell BK159.out 9).trans rfl, (pw_cell_below HB.out hw177_0), (pw_cell_below HB.out hw177_1), (pw_cell_below HB.out hw177_2), (pw_cell_below HB.out hw177_3), (pw_cell_below HB.out hw177_4), (pw_cell_below HB.out hw179_0), (pw_cell_below HB.out hw179_1), (pw_cell_below HB.out hw179_2), (pw_cell_below HB.out hw179_3), (pw_cell_below HB.out hw179_4)⟩ (fun hHeld => ?_)
             clear hK K
             refine norm_ (a' := ?_) ?_ ?_
             rotate_left
             ·show Act.put _ (some 74) _ = _
              simp only [Act.put, List.setIfInBounds_toArray, List.set_cons_zero, List.set_cons_succ, i64_w, i32_w]
              rfl
             refine pure_ (i := 12) (N := some 75) (v := ?_) (a' := ?_) #[true, true, true, true, true, true, true, true, true, true, true, true, true, false, false, false, false, false, false, false, false, false, false] rfl rfl (any_of HT_.out (by kernel_rfl)) (fun _ _ _ h => h) (Or.inl ⟨by rfl, ?_⟩) ?_ ?_
             rotate_left
             ·intro w'
              go_simp
              with_reducible rfl
             rotate_left
             ·simp only [Act.put, List.setIfInBounds_toArray, List.set_cons_zero, List.set_cons_succ, i64_w, i32_w]
              rfl
             refine pure_ (i := 13) (N := some 76) (v := ?_) (a' := ?_) #[true, true, true, true, true, true, true, true, true, true, true, true, true, true, false, false, false, false, false, false, false, false, false] rfl rfl (any_of HT_.out (by kernel_rfl)) (fun _ _ _ h => h) (Or.inl ⟨by rfl, ?_⟩) ?_ ?_
             rotate_left
             ·intro w'
              go_simp
              with_reducible rfl
             rotate_left
             ·simp only [Act.put, List.setIfInBounds_toArray, List.set_cons_zero, List.set_cons_succ, i64_w, i32_w]
              rfl
             refine pure_ (i := 14) (N := some 77) (v := undef) (a' := ?_) #[true, true, true, true, true, true, true, true, true, true, true, true, true, true, true, false, false, false, false, false, false, false, false] rfl rfl (any_of HT_.out (by kernel_rfl)) (fun _ _ _ h => h) (Or.inr ⟨by rfl, rfl⟩) ?_ ?_
             rotate_left
             ·simp only [Act.put, List.setIfInBounds_toArray, List.set_cons_zero, List.set_cons_succ, i64_w, i32_w]
              rfl
             refine pure_ (i := 15) (N := some 78) (v := undef) (a' := ?_) #[true, true, true, true, true, true, true, true, true, true, true, true, true, true, true, true, false, false, false, false, false, false, false] rfl rfl (any_of HT_.out (by kernel_rfl)) (fun _ _ _ h => h) (Or.inr ⟨by rfl, rfl⟩) ?_ ?_
             rotate_left
             ·simp only [Act.put, List.setIfInBounds_toArray, List.set_cons_zero, List.set_cons_succ, i64_w, i32_w]
              rfl
             refine pure_ (i := 16) (N := some 79) (v := undef) (a' := ?_) #[true, true, true, true, true, true, true, true, true, true, true, true, true, true, true, true, true, false, false, false, false, false, false] rfl rfl (any_of HT_.out (by kernel_rfl)) (fun _ _ _ h => h) (Or.inr ⟨by rfl, rfl⟩) ?_ ?_
             rotate_left
             ·simp only [Act.put, List.setIfInBounds_toArray, List.set_cons_zero, List.set_cons_succ, i64_w, i32_w]
              rfl
             refine pure_ (i := 17) (N := some 80) (v := ?_) (a' := ?_) #[true, true, true, true, true, true, true, true, true, true, true, true, true, true, true, true, true, true, false, false, false, false, false] rfl rfl (any_of HT_.out (by kernel_rfl)) (fun _ _ _ h => h) (Or.inl ⟨by rfl, ?_⟩) ?_ ?_
             rotate_left
             ·intro w'
              go_simp
              with_reducible rfl
             rotate_left
             ·simp only [Act.put, List.setIfInBounds_toArray, List.set_cons_zero, List.set_cons_succ, i64_w, i32_w]
              rfl
             refine pure_ (i := 18) (N := some 81) (v := ?_) (a' := ?_) #[true, true, true, true, true, true, true, true, true, true, true, true, true, true, true, true, true, true, true, false, false, false, false] rfl rfl (any_of HT_.out (by kernel_rfl)) (fun _ _ _ h => h) (Or.inl ⟨by rfl, ?_⟩) ?_ ?_
             rotate_left
             ·intro w'
              go_simp
              with_reducible rfl
             rotate_left
             ·simp only [Act.put, List.setIfInBounds_toArray, List.set_cons_zero, List.set_cons_succ, i64_w, i32_w]
              rfl
             refine pure_ (i := 19) (N := some 82) (v := undef) (a' := ?_) #[true, true, true, true, true, true, true, true, true, true, true, true, true, true, true, true, true, true, true, true, false, false, false] rfl rfl (any_of HT_.out (by kernel_rfl)) (fun _ _ _ h => h) (Or.inr ⟨by rfl, rfl⟩) ?_ ?_
             rotate_left
             ·simp only [Act.put, List.setIfInBounds_toArray, List.set_cons_zero, List.set_cons_succ, i64_w, i32_w]
              rfl
             refine pure_ (i := 20) (N := some 83) (v := undef) (a' := ?_) #[true, true, true, true, true, true, true, true, true, true, true, true, true, true, true, true, true, true, true, true, true, false, false] rfl rfl (any_of HT_.out (by kernel_rfl)) (fun _ _ _ h => h) (Or.inr ⟨by rfl, rfl⟩) ?_ ?_
             rotate_left
             ·simp only [Act.put, List.setIfInBounds_toArray, List.set_cons_zero, List.set_cons_succ, i64_w, i32_w]
              rfl
             refine pure_ (i := 21) (N := some 84) (v := undef) (a' := ?_) #[true, true, true, true, true, true, true, true, true, true, true, true, true, true, true, true, true, true, true, true, true, true, false] rfl rfl (any_of HT_.out (by kernel_rfl)) (fun _ _ _ h => h) (Or.inr ⟨by rfl, rfl⟩) ?_ ?_
             rotate_left
             ·simp only [Act.put, List.setIfInBounds_toArray, List.set_cons_zero, List.set_cons_succ, i64_w, i32_w]
              rfl
             refine pure_ (i := 22) (N := some 85) (v := ?_) (a' := ?_) #[true, true, true, true, true, true, true, true, true, true, true, true, true, true, true, true, true, true, true, true, true, true, true] rfl rfl (any_of HT_.out (by kernel_rfl)) (fun _ _ _ h => h) (Or.inl ⟨by rfl, ?_⟩) ?_ ?_
             rotate_left
             ·intro w'
              go_simp
              with_reducible rfl
             rotate_left
             ·simp only [Act.put, List.setIfInBounds_toArray, List.set_cons_zero, List.set_cons_succ, i64_w, i32_w]
              rfl
             refine done_ (done_of HT_.out (by kernel_rfl)) ?_
             try go_wp2
             go_meet
             case rel => exact ⟨_, (true), (by first | rfl | (simp; done) | (simp [*]; done)), H', ⟨by have := HK1.out; have := HJ28.out; first | omega | exact Nat.le_refl _⟩, ⟨by (with_reducible repeat (first | apply Kd.R_alloc | apply Kd.R_drewN | apply Kd.R_drew)); exact HO_167001.out⟩, ⟨by (with_reducible repeat (first | refine blk_drewN ?_ _ | refine blk_drew ?_ | refine blk_alloc ?_ _)); exact BK158.out⟩, ⟨by (with_reducible repeat (first | refine blk_drewN ?_ _ | refine blk_drew ?_ | refine blk_alloc ?_ _)); exact BK159.out⟩, ⟨by (with_reducible repeat (first | refine blk_drewN ?_ _ | refine blk_drew ?_ | refine blk_alloc ?_ _)); exact BK166.out⟩, ⟨by repeat (first | (with_reducible first | exact HB.out | apply below_alloc | apply pw_below_drewN | apply below_drew1 | refine below_set ?_ GE158.out | refine below_set ?_ GE159.out | refine below_set ?_ GE166.out) | exact HB.out)⟩⟩
            ·rw [if_neg c43] at H
             have c43b0 : (t178 != t180) = false := by simpa using c43
             (try (have c43b1 : decide (t178 = t180) = true := by simpa using c43))
             (try (have c43b2 : (t178 == t180) = true := by simpa using c43))
             clear c43
             (first | rw [c43b0] | (simp only [i64_w, i32_w]; rw [c43b0]) | skip)
             by_cases c47 : t173 = t167
             ·rw [if_pos c47] at H
              have c47b0 : (t173 == t167) = true := beq_iff_eq.mpr c47
              have c47b1 : (t173 != t167) = false := bne_eq_false_iff_eq.mpr c47
              clear c47
              have H' := Aside0.mk H
              clear H
              try go_wp2
              have n0_ := Aside0.mk (Kd.R_drew HO_167001.out)
              have n1_ := Aside0.mk (blk_drew BK158.out)
              have n2_ := Aside0.mk (blk_drew BK159.out)
              have n3_ := Aside0.mk (blk_drew BK166.out)
              have n4_ := Aside0.mk (below_drew1 HB.out)
              clear HO_167001
              clear BK158
              clear BK159
              clear BK166
              clear HB
              have HO_167001 := n0_
              have BK158 := n1_
              have BK159 := n2_
              have BK166 := n3_
              have HB := n4_
              clear n0_ n1_ n2_ n3_ n4_
              have p177 : 0 ≤ (x9_1 : Int) := of_decide_eq_true (by first | (with_reducible assumption) | assumption)
              have q177 : x9_1 < (l1.length : Int) := of_decide_eq_true (by first | (with_reducible assumption) | assumption)
              obtain ⟨ad177, e177, hx177_0, hx177_1, hx177_2, hx177_3, hx177_4⟩ := at_T40 HR1.out x9_1 p177 q177
              have hw177_4 := hx177_4
              have hw177_3 := hx177_3
              have hw177_2 := hx177_2
              have hw177_1 := hx177_1
              have hw177_0 := hx177_0
              obtain rfl : ad171 = ad177 := (by injection e177)
              replace hx177_0 := pw_cell_below HB.out hx177_0
              replace hx177_1 := pw_cell_below HB.out hx177_1
              replace hx177_2 := pw_cell_below HB.out hx177_2
              replace hx177_3 := pw_cell_below HB.out hx177_3
              replace hx177_4 := pw_cell_below HB.out hx177_4
              replace p177 := eq_true p177
              replace q177 := eq_true q177
              have p179 : 0 ≤ (x9_1 : Int) := of_decide_eq_true (by first | (with_reducible assumption) | assumption)
              have q179 : x9_1 < (l1.length : Int) := of_decide_eq_true (by first | (with_reducible assumption) | assumption)
              obtain ⟨ad179, e179, hx179_0, hx179_1, hx179_2, hx179_3, hx179_4⟩ := at_T40 HR1.out x9_1 p179 q179
              have hw179_4 := hx179_4
              have hw179_3 := hx179_3
              have hw179_2 := hx179_2
              have hw179_1 := hx179_1
              have hw179_0 := hx179_0
              obtain rfl : ad171 = ad179 := (by injection e179)
              replace hx179_0 := pw_cell_below HB.out hx179_0
              replace hx179_1 := pw_cell_below HB.out hx179_1
              replace hx179_2 := pw_cell_below HB.out hx179_2
              replace hx179_3 := pw_cell_below HB.out hx179_3
              replace hx179_4 := pw_cell_below HB.out hx179_4
              replace p179 := eq_true p179
              replace q179 := eq_true q179
              refine start_ (n := 23) (S := fun w' => w'.cell? ⟨gb159, 0, none⟩ = some (.bool a2_0) ∧ w'.cell? ⟨gb159, 1, none⟩ = some (.int .i64 a2_1) ∧ w'.cell? ⟨gb159, 2, none⟩ = some (.int .u32 a2_2) ∧ w'.cell? ⟨gb159, 3, none⟩ = some (.int .i64 a2_3) ∧ w'.cell? ⟨gb159, 4, none⟩ = some (.int .u32 a2_4) ∧ w'.cell? ⟨gb159, 5, none⟩ = some (.int .i64 a2_5) ∧ w'.cell? ⟨gb159, 6, none⟩ = some (.int .u32 a2_6) ∧ w'.cell? ⟨gb159, 7, none⟩ = some (.int .u32 a2_7) ∧ w'.cell? ⟨gb159, 8, none⟩ = some (.int .u32 a2_8) ∧ w'.cell? ⟨gb159, 9, none⟩ = some (.int .u32 a2_9) ∧ w'.cell? (ad171.add ((x9_1).toNat * 5)) = some (.int .u32 ((rd_T40 l1 x9_1).f0)) ∧ w'.cell? ⟨(ad171.add ((x9_1).toNat * 5)).block, (ad171.add ((x9_1).toNat * 5)).off + 1, none⟩ = some (.int .u32 ((rd_T40 l1 x9_1).f1)) ∧ w'.cell? ⟨(ad171.add ((x9_1).toNat * 5)).block, (ad171.add ((x9_1).toNat * 5)).off + 2, none⟩ = some (.int .u8 ((rd_T40 l1 x9_1).f2)) ∧ w'.cell? ⟨(ad171.add ((x9_1).toNat * 5)).block, (ad171.add ((x9_1).toNat * 5)).off + 3, none⟩ = some (.int .u16 ((rd_T40 l1 x9_1).f3)) ∧ w'.cell? ⟨(ad171.add ((x9_1).toNat * 5)).block, (ad171.add ((x9_1).toNat * 5)).off + 4, none⟩ = some (.int .u16 ((rd_T40 l1 x9_1).f4)) ∧ w'.cell? (ad171.add ((x9_1).toNat * 5)) = some (.int .u32 ((rd_T40 l1 x9_1).f0)) ∧ w'.cell? ⟨(ad171.add ((x9_1).toNat * 5)).block, (ad171.add ((x9_1).toNat * 5)).off + 1, none⟩ = some (.int .u32 ((rd_T40 l1 x9_1).f1)) ∧ w'.cell? ⟨(ad171.add ((x9_1).toNat * 5)).block, (ad171.add ((x9_1).toNat * 5)).off + 2, none⟩ = some (.int .u8 ((rd_T40 l1 x9_1).f2)) ∧ w'.cell? ⟨(ad171.add ((x9_1).toNat * 5)).block, (ad171.add ((x9_1).toNat * 5)).off + 3, none⟩ = some (.int .u16 ((rd_T40 l1 x9_1).f3)) ∧ w'.cell? ⟨(ad171.add ((x9_1).toNat * 5)).block, (ad171.add ((x9_1).toNat * 5)).off + 4, none⟩ = some (.int .u16 ((rd_T40 l1 x9_1).f4))) (ds := []) #[false, false, false, false, false, false, false, false, false, false, false, false, false, false, false, false, false, false, false, false, false, false, false] (by kernel_rfl) rfl rfl ⟨(blk_cell BK159.out 0).trans rfl, (blk_cell BK159.out 1).trans rfl, (blk_cell BK159.out 2).trans rfl, (blk_cell BK159.out 3).trans rfl, (blk_cell BK159.out 4).trans rfl, (blk_cell BK159.out 5).trans rfl, (blk_cell BK159.out 6).trans rfl, (blk_cell BK159.out 7).trans rfl, (blk_cell BK159.out 8).trans rfl, (blk_cell BK159.out 9).trans rfl, (pw_cell_below HB.out hw177_0), (pw_cell_below HB.out hw177_1), (pw_cell_below HB.out hw177_2), (pw_cell_below HB.out hw177_3), (pw_cell_below HB.out hw177_4), (pw_cell_below HB.out hw179_0), (pw_cell_below HB.out hw179_1), (pw_cell_below HB.out hw179_2), (pw_cell_below HB.out hw179_3), (pw_cell_below HB.out hw179_4)⟩ (fun hHeld => ?_); refine with_tabW waymarklaw10_FilterDecides_E.tab12 waymarklaw10_FilterDecides_E.bits12 (fun HT_ HW_ => ?_)
              generalize w40.drew = w48 at HO_167001 BK158 BK159 BK166 HB hx177_0 hx177_1 hx177_2 hx177_3 hx177_4 hx179_0 hx179_1 hx179_2 hx179_3 hx179_4 hHeld ⊢
              refine pure_ (i := 1) (N := some 64) (v := ?_) (a' := ?_) #[false, true, false, false, false, false, false, false, false, false, false, false, false, false, false, false, false, false, false, false, false, false, false] rfl rfl (any_of HT_.out (by kernel_rfl)) (fun _ _ _ h => h) (Or.inl ⟨by rfl, ?_⟩) ?_ ?_
              rotate_left
              ·intro w'
               go_simp
               with_reducible rfl
              rotate_left
              ·simp only [Act.put, List.setIfInBounds_toArray, List.set_cons_zero, List.set_cons_succ, i64_w, i32_w]
               rfl
              refine pure_ (i := 2) (N := some 65) (v := ?_) (a' := ?_) #[false, true, true, false, false, false, false, false, false, false, false, false, false, false, false, false, false, false, false, false, false, false, false] rfl rfl (any_of HT_.out (by kernel_rfl)) (fun _ _ _ h => h) (Or.inl ⟨by rfl, ?_⟩) ?_ ?_
              rotate_left
              ·intro w'
               go_simp
               with_reducible rfl
              rotate_left
              ·simp only [Act.put, List.setIfInBounds_toArray, List.set_cons_zero, List.set_cons_succ, i64_w, i32_w]
               rfl
              refine pure_ (i := 3) (N := some 66) (v := ?_) (a' := ?_) #[false, true, true, true, false, false, false, false, false, false, false, false, false, false, false, false, false, false, false, false, false, false, false] rfl rfl (any_of HT_.out (by kernel_rfl)) (fun _ _ _ h => h) (Or.inl ⟨by rfl, ?_⟩) ?_ ?_
              rotate_left
              ·intro w'
               go_simp
               with_reducible rfl
              rotate_left
              ·simp only [Act.put, List.setIfInBounds_toArray, List.set_cons_zero, List.set_cons_succ, i64_w, i32_w]
               rfl
              refine pure_ (i := 7) (N := some 70) (v := ?_) (a' := ?_) #[false, true, true, true, false, false, false, true, false, false, false, false, false, false, false, false, false, false, false, false, false, false, false] rfl rfl (any_of HT_.out (by kernel_rfl)) (fun _ _ _ h => h) (Or.inl ⟨by rfl, ?_⟩) ?_ ?_
              rotate_left
              ·intro w'
               go_simp
               with_reducible rfl
              rotate_left
              ·simp only [Act.put, List.setIfInBounds_toArray, List.set_cons_zero, List.set_cons_succ, i64_w, i32_w]
               rfl
              refine pure_ (i := 8) (N := some 71) (v := ?_) (a' := ?_) #[false, true, true, true, false, false, false, true, true, false, false, false, false, false, false, false, false, false, false, false, false, false, false] rfl rfl (any_of HT_.out (by kernel_rfl)) (fun _ _ _ h => h) (Or.inl ⟨by rfl, ?_⟩) ?_ ?_
              rotate_left
              ·intro w'
               go_simp
               with_reducible rfl
              rotate_left
              ·simp only [Act.put, List.setIfInBounds_toArray, List.set_cons_zero, List.set_cons_succ, i64_w, i32_w]
               rfl
              refine pure_ (i := 9) (N := some 72) (v := ?_) (a' := ?_) #[false, true, true, true, false, false, false, true, true, true, false, false, false, false, false, false, false, false, false, false, false, false, false] rfl rfl (any_of HT_.out (by kernel_rfl)) (fun _ _ _ h => h) (Or.inl ⟨by rfl, ?_⟩) ?_ ?_
              rotate_left
              ·intro w'
               go_simp
               with_reducible rfl
              rotate_left
              ·simp only [Act.put, List.setIfInBounds_toArray, List.set_cons_zero, List.set_cons_succ, i64_w, i32_w]
               rfl
              refine take_ (i := 0) (N := some 63) (v := ?_) (a' := ?_) #[true, true, true, true, false, false, false, true, true, true, false, false, false, false, false, false, false, false, false, false, false, false, false] rfl rfl (take_ofW HT_.out HW_.out (by kernel_rfl)) (fun _ _ _ h => h) (Or.inl ⟨by rfl, ?_⟩) hHeld ?_ ?_
              rotate_left
              ·rintro w' ⟨s0, s1, s2, s3, s4, s5, s6, s7, s8, s9, s10, s11, s12, s13, s14, s15, s16, s17, s18, s19⟩
               go_simp
               with_reducible rfl
              rotate_left
              ·simp only [Act.put, List.setIfInBounds_toArray, List.set_cons_zero, List.set_cons_succ, i64_w, i32_w]
               rfl
              refine take_ (i := 4) (N := some 67) (v := ?_) (a' := ?_) #[true, true, true, true, true, false, false, true, true, true, false, false, false, false, false, false, false, false, false, false, false, false, false] rfl rfl (take_ofW HT_.out HW_.out (by kernel_rfl)) (fun _ _ _ h => h) (Or.inl ⟨by rfl, ?_⟩) hHeld ?_ ?_
              rotate_left
              ·rintro w' ⟨s0, s1, s2, s3, s4, s5, s6, s7, s8, s9, s10, s11, s12, s13, s14, s15, s16, s17, s18, s19⟩
               go_simp
               with_reducible rfl
              rotate_left
              ·simp only [Act.put, List.setIfInBounds_toArray, List.set_cons_zero, List.set_cons_succ, i64_w, i32_w]
               rfl
              refine take_ (i := 6) (N := some 69) (v := ?_) (a' := ?_) #[true, true, true, true, true, false, true, true, true, true, false, false, false, false, false, false, false, false, false, false, false, false, false] rfl rfl (take_ofW HT_.out HW_.out (by kernel_rfl)) (fun _ _ _ h => h) (Or.inl ⟨by rfl, ?_⟩) hHeld ?_ ?_
              rotate_left
              ·rintro w' ⟨s0, s1, s2, s3, s4, s5, s6, s7, s8, s9, s10, s11, s12, s13, s14, s15, s16, s17, s18, s19⟩
               go_simp
               with_reducible rfl
              rotate_left
              ·simp only [Act.put, List.setIfInBounds_toArray, List.set_cons_zero, List.set_cons_succ, i64_w, i32_w]
               rfl
              refine take_ (i := 10) (N := some 73) (v := ?_) (a' := ?_) #[true, true, true, true, true, false, true, true, true, true, true, false, false, false, false, false, false, false, false, false, false, false, false] rfl rfl (take_ofW HT_.out HW_.out (by kernel_rfl)) (fun _ _ _ h => h) (Or.inl ⟨by rfl, ?_⟩) hHeld ?_ ?_
              rotate_left
              ·rintro w' ⟨s0, s1, s2, s3, s4, s5, s6, s7, s8, s9, s10, s11, s12, s13, s14, s15, s16, s17, s18, s19⟩
               go_simp
               with_reducible rfl
              rotate_left
              ·simp only [Act.put, List.setIfInBounds_toArray, List.set_cons_zero, List.set_cons_succ, i64_w, i32_w]
               rfl
              refine one_ (i := 5) (N := some 68) #[true, true, true, true, true, true, true, true, true, true, true, false, false, false, false, false, false, false, false, false, false, false, false] rfl rfl (one_of HT_.out (by kernel_rfl)) (by decide) (fun K hK => ?_)
              refine goes_ Try.func16 (by kernel_rfl) rfl #[.agg #[.bool a2_0, .int .i64 a2_1, .int .u32 a2_2, .int .i64 a2_3, .int .u32 a2_4, .int .i64 a2_5, .int .u32 a2_6, .int .u32 a2_7, .int .u32 a2_8, .int .u32 a2_9], .agg #[.int .u32 ((rd_T40 l1 x9_1).f0), .int .u32 ((rd_T40 l1 x9_1).f1), .int .u8 ((rd_T40 l1 x9_1).f2), .int .u16 ((rd_T40 l1 x9_1).f3), .int .u16 ((rd_T40 l1 x9_1).f4)]] (by rfl) rfl rfl (by (try simp only [List.map_toArray, List.map_cons, List.map_nil]); first | done | rfl | (simp only [List.length_drop, List.length_take]; rfl)) ?_
              with_reducible refine (filter_Fits.calls kj28 a2_0 a2_1 a2_2 a2_3 a2_4 a2_5 a2_6 a2_7 a2_8 a2_9 ((rd_T40 l1 x9_1).f0) ((rd_T40 l1 x9_1).f1) ((rd_T40 l1 x9_1).f2) ((rd_T40 l1 x9_1).f3) ((rd_T40 l1 x9_1).f4) t178 _ A41.out).mono ?_
              rintro e w49 ⟨rfl, hb⟩
              refine ⟨_, rfl, ?_⟩
              have n0_ := Aside0.mk (Kd.R_below (by (with_reducible repeat (first | apply Kd.R_alloc | apply Kd.R_drewN | apply Kd.R_drew)); exact HO_167001.out) hb)
              have n1_ := Aside0.mk (blk_below (g := gb158) (o := .cells #[.string a0_0, .slice A0_1 l0_1.length c0_1] 24 (0, 0)) (by (with_reducible repeat (first | refine blk_drewN ?_ _ | refine blk_drew ?_ | refine blk_alloc ?_ _)); exact BK158.out) hb)
              have n2_ := Aside0.mk (blk_below (g := gb159) (o := .cells #[.bool a2_0, .int .i64 a2_1, .int .u32 a2_2, .int .i64 a2_3, .int .u32 a2_4, .int .i64 a2_5, .int .u32 a2_6, .int .u32 a2_7, .int .u32 a2_8, .int .u32 a2_9] 33 (0, 0)) (by (with_reducible repeat (first | refine blk_drewN ?_ _ | refine blk_drew ?_ | refine blk_alloc ?_ _)); exact BK159.out) hb)
              have n3_ := Aside0.mk (blk_below (g := gb166) (o := .cells #[.string a0_0, .slice Ao20 y163.length co20] 24 (0, 0)) (by (with_reducible repeat (first | refine blk_drewN ?_ _ | refine blk_drew ?_ | refine blk_alloc ?_ _)); exact BK166.out) hb)
              have n4_ := Aside0.mk (below_step (by repeat (first | (with_reducible first | exact HB.out | apply below_alloc | apply pw_below_drewN | apply below_drew1 | refine below_set ?_ GE158.out | refine below_set ?_ GE159.out | refine below_set ?_ GE166.out) | exact HB.out)) hb)
              clear HO_167001
              clear BK158
              clear BK159
              clear BK166
              clear HB
              have HO_167001 := n0_
              have BK158 := n1_
              have BK159 := n2_
              have BK166 := n3_
              have HB := n4_
              clear n0_ n1_ n2_ n3_ n4_
              (try clear hb)
              (try clear hb2)
              (try clear hk)
              (try clear hi)
              refine hK.out _ _ ⟨(blk_cell BK159.out 0).trans rfl, (blk_cell BK159.out 1).trans rfl, (blk_cell BK159.out 2).trans rfl, (blk_cell BK159.out 3).trans rfl, (blk_cell BK159.out 4).trans rfl, (blk_cell BK159.out 5).trans rfl, (blk_cell BK159.out 6).trans rfl, (blk_cell BK159.out 7).trans rfl, (blk_cell BK159.out 8).trans rfl, (blk_cell BK159.out 9).trans rfl, (pw_cell_below HB.out hw177_0), (pw_cell_below HB.out hw177_1), (pw_cell_below HB.out hw177_2), (pw_cell_below HB.out hw177_3), (pw_cell_below HB.out hw177_4), (pw_cell_below HB.out hw179_0), (pw_cell_below HB.out hw179_1), (pw_cell_below HB.out hw179_2), (pw_cell_below HB.out hw179_3), (pw_cell_below HB.out hw179_4)⟩ (fun hHeld => ?_)
              clear hK K
              refine norm_ (a' := ?_) ?_ ?_
              rotate_left
              ·show Act.put _ (some 68) _ = _
               simp only [Act.put, List.setIfInBounds_toArray, List.set_cons_zero, List.set_cons_succ, i64_w, i32_w]
               rfl
              refine one_ (i := 11) (N := some 74) #[true, true, true, true, true, true, true, true, true, true, true, true, false, false, false, false, false, false, false, false, false, false, false] rfl rfl (one_of HT_.out (by kernel_rfl)) (by decide) (fun K hK => ?_)
              refine goes_ Try.func17 (by kernel_rfl) rfl #[.agg #[.bool a2_0, .int .i64 a2_1, .int .u32 a2_2, .int .i64 a2_3, .int .u32 a2_4, .int .i64 a2_5, .int .u32 a2_6, .int .u32 a2_7, .int .u32 a2_8, .int .u32 a2_9], .agg #[.int .u32 ((rd_T40 l1 x9_1).f0), .int .u32 ((rd_T40 l1 x9_1).f1), .int .u8 ((rd_T40 l1 x9_1).f2), .int .u16 ((rd_T40 l1 x9_1).f3), .int .u16 ((rd_T40 l1 x9_1).f4)]] (by rfl) rfl rfl (by (try simp only [List.map_toArray, List.map_cons, List.map_nil]); first | done | rfl | (simp only [List.length_drop, List.length_take]; rfl)) ?_
              with_reducible refine (waymarkref10_Fits.calls kj28 a2_0 a2_1 a2_2 a2_3 a2_4 a2_5 a2_6 a2_7 a2_8 a2_9 ((rd_T40 l1 x9_1).f0) ((rd_T40 l1 x9_1).f1) ((rd_T40 l1 x9_1).f2) ((rd_T40 l1 x9_1).f3) ((rd_T40 l1 x9_1).f4) t180 _ A42.out).mono ?_
              rintro e w50 ⟨rfl, hb⟩
              refine ⟨_, rfl, ?_⟩
              have n0_ := Aside0.mk (Kd.R_below (by (with_reducible repeat (first | apply Kd.R_alloc | apply Kd.R_drewN | apply Kd.R_drew)); exact HO_167001.out) hb)
              have n1_ := Aside0.mk (blk_below (g := gb158) (o := .cells #[.string a0_0, .slice A0_1 l0_1.length c0_1] 24 (0, 0)) (by (with_reducible repeat (first | refine blk_drewN ?_ _ | refine blk_drew ?_ | refine blk_alloc ?_ _)); exact BK158.out) hb)
              have n2_ := Aside0.mk (blk_below (g := gb159) (o := .cells #[.bool a2_0, .int .i64 a2_1, .int .u32 a2_2, .int .i64 a2_3, .int .u32 a2_4, .int .i64 a2_5, .int .u32 a2_6, .int .u32 a2_7, .int .u32 a2_8, .int .u32 a2_9] 33 (0, 0)) (by (with_reducible repeat (first | refine blk_drewN ?_ _ | refine blk_drew ?_ | refine blk_alloc ?_ _)); exact BK159.out) hb)
              have n3_ := Aside0.mk (blk_below (g := gb166) (o := .cells #[.string a0_0, .slice Ao20 y163.length co20] 24 (0, 0)) (by (with_reducible repeat (first | refine blk_drewN ?_ _ | refine blk_drew ?_ | refine blk_alloc ?_ _)); exact BK166.out) hb)
              have n4_ := Aside0.mk (below_step (by repeat (first | (with_reducible first | exact HB.out | apply below_alloc | apply pw_below_drewN | apply below_drew1 | refine below_set ?_ GE158.out | refine below_set ?_ GE159.out | refine below_set ?_ GE166.out) | exact HB.out)) hb)
              clear HO_167001
              clear BK158
              clear BK159
              clear BK166
              clear HB
              have HO_167001 := n0_
              have BK158 := n1_
              have BK159 := n2_
              have BK166 := n3_
              have HB := n4_
              clear n0_ n1_ n2_ n3_ n4_
              (try clear hb)
              (try clear hb2)
              (try clear hk)
              (try clear hi)
              refine hK.out _ _ ⟨(blk_cell BK159.out 0).trans rfl, (blk_cell BK159.out 1).trans rfl, (blk_cell BK159.out 2).trans rfl, (blk_cell BK159.out 3).trans rfl, (blk_cell BK159.out 4).trans rfl, (blk_cell BK159.out 5).trans rfl, (blk_cell BK159.out 6).trans rfl, (blk_cell BK159.out 7).trans rfl, (blk_cell BK159.out 8).trans rfl, (blk_cell BK159.out 9).trans rfl, (pw_cell_below HB.out hw177_0), (pw_cell_below HB.out hw177_1), (pw_cell_below HB.out hw177_2), (pw_cell_below HB.out hw177_3), (pw_cell_below HB.out hw177_4), (pw_cell_below HB.out hw179_0), (pw_cell_below HB.out hw179_1), (pw_cell_below HB.out hw179_2), (pw_cell_below HB.out hw179_3), (pw_cell_below HB.out hw179_4)⟩ (fun hHeld => ?_)
              clear hK K
              refine norm_ (a' := ?_) ?_ ?_
              rotate_left
              ·show Act.put _ (some 74) _ = _
               simp only [Act.put, List.setIfInBounds_toArray, List.set_cons_zero, List.set_cons_succ, i64_w, i32_w]
               rfl
              refine pure_ (i := 12) (N := some 75) (v := ?_) (a' := ?_) #[true, true, true, true, true, true, true, true, true, true, true, true, true, false, false, false, false, false, false, false, false, false, false] rfl rfl (any_of HT_.out (by kernel_rfl)) (fun _ _ _ h => h) (Or.inl ⟨by rfl, ?_⟩) ?_ ?_
              rotate_left
              ·intro w'
               go_simp
               with_reducible rfl
              rotate_left
              ·simp only [Act.put, List.setIfInBounds_toArray, List.set_cons_zero, List.set_cons_succ, i64_w, i32_w]
               rfl
              refine pure_ (i := 13) (N := some 76) (v := ?_) (a' := ?_) #[true, true, true, true, true, true, true, true, true, true, true, true, true, true, false, false, false, false, false, false, false, false, false] rfl rfl (any_of HT_.out (by kernel_rfl)) (fun _ _ _ h => h) (Or.inl ⟨by rfl, ?_⟩) ?_ ?_
              rotate_left
              ·intro w'
               go_simp
               with_reducible rfl
              rotate_left
              ·simp only [Act.put, List.setIfInBounds_toArray, List.set_cons_zero, List.set_cons_succ, i64_w, i32_w]
               rfl
              refine pure_ (i := 14) (N := some 77) (v := ?_) (a' := ?_) #[true, true, true, true, true, true, true, true, true, true, true, true, true, true, true, false, false, false, false, false, false, false, false] rfl rfl (any_of HT_.out (by kernel_rfl)) (fun _ _ _ h => h) (Or.inl ⟨by rfl, ?_⟩) ?_ ?_
              rotate_left
              ·intro w'
               go_simp
               with_reducible rfl
              rotate_left
              ·simp only [Act.put, List.setIfInBounds_toArray, List.set_cons_zero, List.set_cons_succ, i64_w, i32_w]
               rfl
              refine pure_ (i := 15) (N := some 78) (v := ?_) (a' := ?_) #[true, true, true, true, true, true, true, true, true, true, true, true, true, true, true, true, false, false, false, false, false, false, false] rfl rfl (any_of HT_.out (by kernel_rfl)) (fun _ _ _ h => h) (Or.inl ⟨by rfl, ?_⟩) ?_ ?_
              rotate_left
              ·intro w'
               go_simp
               with_reducible rfl
              rotate_left
              ·simp only [Act.put, List.setIfInBounds_toArray, List.set_cons_zero, List.set_cons_succ, i64_w, i32_w]
               rfl
              refine pure_ (i := 16) (N := some 79) (v := ?_) (a' := ?_) #[true, true, true, true, true, true, true, true, true, true, true, true, true, true, true, true, true, false, false, false, false, false, false] rfl rfl (any_of HT_.out (by kernel_rfl)) (fun _ _ _ h => h) (Or.inl ⟨by rfl, ?_⟩) ?_ ?_
              rotate_left
              ·intro w'
               go_simp
               with_reducible rfl
              rotate_left
              ·simp only [Act.put, List.setIfInBounds_toArray, List.set_cons_zero, List.set_cons_succ, i64_w, i32_w]
               rfl
              refine pure_ (i := 17) (N := some 80) (v := ?_) (a' := ?_) #[true, true, true, true, true, true, true, true, true, true, true, true, true, true, true, true, true, true, false, false, false, false, false] rfl rfl (any_of HT_.out (by kernel_rfl)) (fun _ _ _ h => h) (Or.inl ⟨by rfl, ?_⟩) ?_ ?_
              rotate_left
              ·intro w'
               go_simp
               with_reducible rfl
              rotate_left
              ·simp only [Act.put, List.setIfInBounds_toArray, List.set_cons_zero, List.set_cons_succ, i64_w, i32_w]
               rfl
              refine pure_ (i := 18) (N := some 81) (v := ?_) (a' := ?_) #[true, true, true, true, true, true, true, true, true, true, true, true, true, true, true, true, true, true, true, false, false, false, false] rfl rfl (any_of HT_.out (by kernel_rfl)) (fun _ _ _ h => h) (Or.inl ⟨by rfl, ?_⟩) ?_ ?_
              rotate_left
              ·intro w'
               go_simp
               with_reducible rfl
              rotate_left
              ·simp only [Act.put, List.setIfInBounds_toArray, List.set_cons_zero, List.set_cons_succ, i64_w, i32_w]
               rfl
              refine pure_ (i := 19) (N := some 82) (v := ?_) (a' := ?_) #[true, true, true, true, true, true, true, true, true, true, true, true, true, true, true, true, true, true, true, true, false, false, false] rfl rfl (any_of HT_.out (by kernel_rfl)) (fun _ _ _ h => h) (Or.inl ⟨by rfl, ?_⟩) ?_ ?_
              rotate_left
              ·intro w'
               go_simp
               with_reducible rfl
              rotate_left
              ·simp only [Act.put, List.setIfInBounds_toArray, List.set_cons_zero, List.set_cons_succ, i64_w, i32_w]
               rfl
              refine pure_ (i := 20) (N := some 83) (v := ?_) (a' := ?_) #[true, true, true, true, true, true, true, true, true, true, true, true, true, true, true, true, true, true, true, true, true, false, false] rfl rfl (any_of HT_.out (by kernel_rfl)) (fun _ _ _ h => h) (Or.inl ⟨by rfl, ?_⟩) ?_ ?_
              rotate_left
              ·intro w'
               go_simp
               with_reducible rfl
              rotate_left
              ·simp only [Act.put, List.setIfInBounds_toArray, List.set_cons_zero, List.set_cons_succ, i64_w, i32_w]
               rfl
              refine pure_ (i := 21) (N := some 84) (v := ?_) (a' := ?_) #[true, true, true, true, true, true, true, true, true, true, true, true, true, true, true, true, true, true, true, true, true, true, false] rfl rfl (any_of HT_.out (by kernel_rfl)) (fun _ _ _ h => h) (Or.inl ⟨by rfl, ?_⟩) ?_ ?_
              rotate_left
              ·intro w'
               go_simp
               with_reducible rfl
              rotate_left
              ·simp only [Act.put, List.setIfInBounds_toArray, List.set_cons_zero, List.set_cons_succ, i64_w, i32_w]
               rfl
              refine pure_ (i := 22) (N := some 85) (v := ?_) (a' := ?_) #[true, true, true, true, true, true, true, true, true, true, true, true, true, true, true, true, true, true, true, true, true, true, true] rfl rfl (any_of HT_.out (by kernel_rfl)) (fun _ _ _ h => h) (Or.inl ⟨by rfl, ?_⟩) ?_ ?_
              rotate_left
              ·intro w'
               go_simp
               with_reducible rfl
              rotate_left
              ·simp only [Act.put, List.setIfInBounds_toArray, List.set_cons_zero, List.set_cons_succ, i64_w, i32_w]
               rfl
              refine done_ (done_of HT_.out (by kernel_rfl)) ?_
              try go_wp2
              go_meet
              case rel => exact ⟨_, ((t176 != t167)), (by first | rfl | (simp; done) | (simp [*]; done)), H', ⟨by have := HK1.out; have := HJ28.out; first | omega | exact Nat.le_refl _⟩, ⟨by (with_reducible repeat (first | apply Kd.R_alloc | apply Kd.R_drewN | apply Kd.R_drew)); exact HO_167001.out⟩, ⟨by (with_reducible repeat (first | refine blk_drewN ?_ _ | refine blk_drew ?_ | refine blk_alloc ?_ _)); exact BK158.out⟩, ⟨by (with_reducible repeat (first | refine blk_drewN ?_ _ | refine blk_drew ?_ | refine blk_alloc ?_ _)); exact BK159.out⟩, ⟨by (with_reducible repeat (first | refine blk_drewN ?_ _ | refine blk_drew ?_ | refine blk_alloc ?_ _)); exact BK166.out⟩, ⟨by repeat (first | (with_reducible first | exact HB.out | apply below_alloc | apply pw_below_drewN | apply below_drew1 | refine below_set ?_ GE158.out | refine below_set ?_ GE159.out | refine below_set ?_ GE166.out) | exact HB.out)⟩⟩
             ·rw [if_neg c47] at H
              have c47b0 : (t173 == t167) = false := beq_eq_false_iff_ne.mpr c47
              have c47b1 : (t173 != t167) = true := bne_iff_ne.mpr c47
              have H' := Aside0.mk H
              clear H
              try go_wp2
              have n0_ := Aside0.mk (Kd.R_drew HO_167001.out)
              have n1_ := Aside0.mk (blk_drew BK158.out)
              have n2_ := Aside0.mk (blk_drew BK159.out)
              have n3_ := Aside0.mk (blk_drew BK166.out)
              have n4_ := Aside0.mk (below_drew1 HB.out)
              clear HO_167001
              clear BK158
              clear BK159
              clear BK166
              clear HB
              have HO_167001 := n0_
              have BK158 := n1_
              have BK159 := n2_
              have BK166 := n3_
              have HB := n4_
              clear n0_ n1_ n2_ n3_ n4_
              have p177 : 0 ≤ (x9_1 : Int) := of_decide_eq_true (by first | (with_reducible assumption) | assumption)
              have q177 : x9_1 < (l1.length : Int) := of_decide_eq_true (by first | (with_reducible assumption) | assumption)
              obtain ⟨ad177, e177, hx177_0, hx177_1, hx177_2, hx177_3, hx177_4⟩ := at_T40 HR1.out x9_1 p177 q177
              have hw177_4 := hx177_4
              have hw177_3 := hx177_3
              have hw177_2 := hx177_2
              have hw177_1 := hx177_1
              have hw177_0 := hx177_0
              obtain rfl : ad171 = ad177 := (by injection e177)
              replace hx177_0 := pw_cell_below HB.out hx177_0
              replace hx177_1 := pw_cell_below HB.out hx177_1
              replace hx177_2 := pw_cell_below HB.out hx177_2
              replace hx177_3 := pw_cell_below HB.out hx177_3
              replace hx177_4 := pw_cell_below HB.out hx177_4
              replace p177 := eq_true p177
              replace q177 := eq_true q177
              have p179 : 0 ≤ (x9_1 : Int) := of_decide_eq_true (by first | (with_reducible assumption) | assumption)
              have q179 : x9_1 < (l1.length : Int) := of_decide_eq_true (by first | (with_reducible assumption) | assumption)
              obtain ⟨ad179, e179, hx179_0, hx179_1, hx179_2, hx179_3, hx179_4⟩ := at_T40 HR1.out x9_1 p179 q179
              have hw179_4 := hx179_4
              have hw179_3 := hx179_3
              have hw179_2 := hx179_2
              have hw179_1 := hx179_1
              have hw179_0 := hx179_0
              obtain rfl : ad171 = ad179 := (by injection e179)
              replace hx179_0 := pw_cell_below HB.out hx179_0
              replace hx179_1 := pw_cell_below HB.out hx179_1
              replace hx179_2 := pw_cell_below HB.out hx179_2
              replace hx179_3 := pw_cell_below HB.out hx179_3
              replace hx179_4 := pw_cell_below HB.out hx179_4
              replace p179 := eq_true p179
              replace q179 := eq_true q179
              refine start_ (n := 23) (S := fun w' => w'.cell? ⟨gb159, 0, none⟩ = some (.bool a2_0) ∧ w'.cell? ⟨gb159, 1, none⟩ = some (.int .i64 a2_1) ∧ w'.cell? ⟨gb159, 2, none⟩ = some (.int .u32 a2_2) ∧ w'.cell? ⟨gb159, 3, none⟩ = some (.int .i64 a2_3) ∧ w'.cell? ⟨gb159, 4, none⟩ = some (.int .u32 a2_4) ∧ w'.cell? ⟨gb159, 5, none⟩ = some (.int .i64 a2_5) ∧ w'.cell? ⟨gb159, 6, none⟩ = some (.int .u32 a2_6) ∧ w'.cell? ⟨gb159, 7, none⟩ = some (.int .u32 a2_7) ∧ w'.cell? ⟨gb159, 8, none⟩ = some (.int .u32 a2_8) ∧ w'.cell? ⟨gb159, 9, none⟩ = some (.int .u32 a2_9) ∧ w'.cell? (ad171.add ((x9_1).toNat * 5)) = some (.int .u32 ((rd_T40 l1 x9_1).f0)) ∧ w'.cell? ⟨(ad171.add ((x9_1).toNat * 5)).block, (ad171.add ((x9_1).toNat * 5)).off + 1, none⟩ = some (.int .u32 ((rd_T40 l1 x9_1).f1)) ∧ w'.cell? ⟨(ad171.add ((x9_1).toNat * 5)).block, (ad171.add ((x9_1).toNat * 5)).off + 2, none⟩ = some (.int .u8 ((rd_T40 l1 x9_1).f2)) ∧ w'.cell? ⟨(ad171.add ((x9_1).toNat * 5)).block, (ad171.add ((x9_1).toNat * 5)).off + 3, none⟩ = some (.int .u16 ((rd_T40 l1 x9_1).f3)) ∧ w'.cell? ⟨(ad171.add ((x9_1).toNat * 5)).block, (ad171.add ((x9_1).toNat * 5)).off + 4, none⟩ = some (.int .u16 ((rd_T40 l1 x9_1).f4)) ∧ w'.cell? (ad171.add ((x9_1).toNat * 5)) = some (.int .u32 ((rd_T40 l1 x9_1).f0)) ∧ w'.cell? ⟨(ad171.add ((x9_1).toNat * 5)).block, (ad171.add ((x9_1).toNat * 5)).off + 1, none⟩ = some (.int .u32 ((rd_T40 l1 x9_1).f1)) ∧ w'.cell? ⟨(ad171.add ((x9_1).toNat * 5)).block, (ad171.add ((x9_1).toNat * 5)).off + 2, none⟩ = some (.int .u8 ((rd_T40 l1 x9_1).f2)) ∧ w'.cell? ⟨(ad171.add ((x9_1).toNat * 5)).block, (ad171.add ((x9_1).toNat * 5)).off + 3, none⟩ = some (.int .u16 ((rd_T40 l1 x9_1).f3)) ∧ w'.cell? ⟨(ad171.add ((x9_1).toNat * 5)).block, (ad171.add ((x9_1).toNat * 5)).off + 4, none⟩ = some (.int .u16 ((rd_T40 l1 x9_1).f4))) (ds := []) #[false, false, false, false, false, false, false, false, false, false, false, false, false, false, false, false, false, false, false, false, false, false, false] (by kernel_rfl) rfl rfl ⟨(blk_cell BK159.out 0).trans rfl, (blk_cell BK159.out 1).trans rfl, (blk_cell BK159.out 2).trans rfl, (blk_cell BK159.out 3).trans rfl, (blk_cell BK159.out 4).trans rfl, (blk_cell BK159.out 5).trans rfl, (blk_cell BK159.out 6).trans rfl, (blk_cell BK159.out 7).trans rfl, (blk_cell BK159.out 8).trans rfl, (blk_cell BK159.out 9).trans rfl, (pw_cell_below HB.out hw177_0), (pw_cell_below HB.out hw177_1), (pw_cell_below HB.out hw177_2), (pw_cell_below HB.out hw177_3), (pw_cell_below HB.out hw177_4), (pw_cell_below HB.out hw179_0), (pw_cell_below HB.out hw179_1), (pw_cell_below HB.out hw179_2), (pw_cell_below HB.out hw179_3), (pw_cell_below HB.out hw179_4)⟩ (fun hHeld => ?_); refine with_tabW waymarklaw10_FilterDecides_E.tab12 waymarklaw10_FilterDecides_E.bits12 (fun HT_ HW_ => ?_)
              generalize w40.drew = w51 at HO_167001 BK158 BK159 BK166 HB hx177_0 hx177_1 hx177_2 hx177_3 hx177_4 hx179_0 hx179_1 hx179_2 hx179_3 hx179_4 hHeld ⊢
              refine pure_ (i := 1) (N := some 64) (v := ?_) (a' := ?_) #[false, true, false, false, false, false, false, false, false, false, false, false, false, false, false, false, false, false, false, false, false, false, false] rfl rfl (any_of HT_.out (by kernel_rfl)) (fun _ _ _ h => h) (Or.inl ⟨by rfl, ?_⟩) ?_ ?_
              rotate_left
              ·intro w'
               go_simp
               with_reducible rfl
              rotate_left
              ·simp only [Act.put, List.setIfInBounds_toArray, List.set_cons_zero, List.set_cons_succ, i64_w, i32_w]
               rfl
              refine pure_ (i := 2) (N := some 65) (v := ?_) (a' := ?_) #[false, true, true, false, false, false, false, false, false, false, false, false, false, false, false, false, false, false, false, false, false, false, false] rfl rfl (any_of HT_.out (by kernel_rfl)) (fun _ _ _ h => h) (Or.inl ⟨by rfl, ?_⟩) ?_ ?_
              rotate_left
              ·intro w'
               go_simp
               with_reducible rfl
              rotate_left
              ·simp only [Act.put, List.setIfInBounds_toArray, List.set_cons_zero, List.set_cons_succ, i64_w, i32_w]
               rfl
              refine pure_ (i := 3) (N := some 66) (v := ?_) (a' := ?_) #[false, true, true, true, false, false, false, false, false, false, false, false, false, false, false, false, false, false, false, false, false, false, false] rfl rfl (any_of HT_.out (by kernel_rfl)) (fun _ _ _ h => h) (Or.inl ⟨by rfl, ?_⟩) ?_ ?_
              rotate_left
              ·intro w'
               go_simp
               with_reducible rfl
              rotate_left
              ·simp only [Act.put, List.setIfInBounds_toArray, List.set_cons_zero, List.set_cons_succ, i64_w, i32_w]
               rfl
              refine pure_ (i := 7) (N := some 70) (v := ?_) (a' := ?_) #[false, true, true, true, false, false, false, true, false, false, false, false, false, false, false, false, false, false, false, false, false, false, false] rfl rfl (any_of HT_.out (by kernel_rfl)) (fun _ _ _ h => h) (Or.inl ⟨by rfl, ?_⟩) ?_ ?_
              rotate_left
              ·intro w'
               go_simp
               with_reducible rfl
              rotate_left
              ·simp only [Act.put, List.setIfInBounds_toArray, List.set_cons_zero, List.set_cons_succ, i64_w, i32_w]
               rfl
              refine pure_ (i := 8) (N := some 71) (v := ?_) (a' := ?_) #[false, true, true, true, false, false, false, true, true, false, false, false, false, false, false, false, false, false, false, false, false, false, false] rfl rfl (any_of HT_.out (by kernel_rfl)) (fun _ _ _ h => h) (Or.inl ⟨by rfl, ?_⟩) ?_ ?_
              rotate_left
              ·intro w'
               go_simp
               with_reducible rfl
              rotate_left
              ·simp only [Act.put, List.setIfInBounds_toArray, List.set_cons_zero, List.set_cons_succ, i64_w, i32_w]
               rfl
              refine pure_ (i := 9) (N := some 72) (v := ?_) (a' := ?_) #[false, true, true, true, false, false, false, true, true, true, false, false, false, false, false, false, false, false, false, false, false, false, false] rfl rfl (any_of HT_.out (by kernel_rfl)) (fun _ _ _ h => h) (Or.inl ⟨by rfl, ?_⟩) ?_ ?_
              rotate_left
              ·intro w'
               go_simp
               with_reducible rfl
              rotate_left
              ·simp only [Act.put, List.setIfInBounds_toArray, List.set_cons_zero, List.set_cons_succ, i64_w, i32_w]
               rfl
              refine take_ (i := 0) (N := some 63) (v := ?_) (a' := ?_) #[true, true, true, true, false, false, false, true, true, true, false, false, false, false, false, false, false, false, false, false, false, false, false] rfl rfl (take_ofW HT_.out HW_.out (by kernel_rfl)) (fun _ _ _ h => h) (Or.inl ⟨by rfl, ?_⟩) hHeld ?_ ?_
              rotate_left
              ·rintro w' ⟨s0, s1, s2, s3, s4, s5, s6, s7, s8, s9, s10, s11, s12, s13, s14, s15, s16, s17, s18, s19⟩
               go_simp
               with_reducible rfl
              rotate_left
              ·simp only [Act.put, List.setIfInBounds_toArray, List.set_cons_zero, List.set_cons_succ, i64_w, i32_w]
               rfl
              refine take_ (i := 4) (N := some 67) (v := ?_) (a' := ?_) #[true, true, true, true, true, false, false, true, true, true, false, false, false, false, false, false, false, false, false, false, false, false, false] rfl rfl (take_ofW HT_.out HW_.out (by kernel_rfl)) (fun _ _ _ h => h) (Or.inl ⟨by rfl, ?_⟩) hHeld ?_ ?_
              rotate_left
              ·rintro w' ⟨s0, s1, s2, s3, s4, s5, s6, s7, s8, s9, s10, s11, s12, s13, s14, s15, s16, s17, s18, s19⟩
               go_simp
               with_reducible rfl
              rotate_left
              ·simp only [Act.put, List.setIfInBounds_toArray, List.set_cons_zero, List.set_cons_succ, i64_w, i32_w]
               rfl
              refine take_ (i := 6) (N := some 69) (v := ?_) (a' := ?_) #[true, true, true, true, true, false, true, true, true, true, false, false, false, false, false, false, false, false, false, false, false, false, false] rfl rfl (take_ofW HT_.out HW_.out (by kernel_rfl)) (fun _ _ _ h => h) (Or.inl ⟨by rfl, ?_⟩) hHeld ?_ ?_
              rotate_left
              ·rintro w' ⟨s0, s1, s2, s3, s4, s5, s6, s7, s8, s9, s10, s11, s12, s13, s14, s15, s16, s17, s18, s19⟩
               go_simp
               with_reducible rfl
              rotate_left
              ·simp only [Act.put, List.setIfInBounds_toArray, List.set_cons_zero, List.set_cons_succ, i64_w, i32_w]
               rfl
              refine take_ (i := 10) (N := some 73) (v := ?_) (a' := ?_) #[true, true, true, true, true, false, true, true, true, true, true, false, false, false, false, false, false, false, false, false, false, false, false] rfl rfl (take_ofW HT_.out HW_.out (by kernel_rfl)) (fun _ _ _ h => h) (Or.inl ⟨by rfl, ?_⟩) hHeld ?_ ?_
              rotate_left
              ·rintro w' ⟨s0, s1, s2, s3, s4, s5, s6, s7, s8, s9, s10, s11, s12, s13, s14, s15, s16, s17, s18, s19⟩
               go_simp
               with_reducible rfl
              rotate_left
              ·simp only [Act.put, List.setIfInBounds_toArray, List.set_cons_zero, List.set_cons_succ, i64_w, i32_w]
               rfl
              refine one_ (i := 5) (N := some 68) #[true, true, true, true, true, true, true, true, true, true, true, false, false, false, false, false, false, false, false, false, false, false, false] rfl rfl (one_of HT_.out (by kernel_rfl)) (by decide) (fun K hK => ?_)
              refine goes_ Try.func16 (by kernel_rfl) rfl #[.agg #[.bool a2_0, .int .i64 a2_1, .int .u32 a2_2, .int .i64 a2_3, .int .u32 a2_4, .int .i64 a2_5, .int .u32 a2_6, .int .u32 a2_7, .int .u32 a2_8, .int .u32 a2_9], .agg #[.int .u32 ((rd_T40 l1 x9_1).f0), .int .u32 ((rd_T40 l1 x9_1).f1), .int .u8 ((rd_T40 l1 x9_1).f2), .int .u16 ((rd_T40 l1 x9_1).f3), .int .u16 ((rd_T40 l1 x9_1).f4)]] (by rfl) rfl rfl (by (try simp only [List.map_toArray, List.map_cons, List.map_nil]); first | done | rfl | (simp only [List.length_drop, List.length_take]; rfl)) ?_
              with_reducible refine (filter_Fits.calls kj28 a2_0 a2_1 a2_2 a2_3 a2_4 a2_5 a2_6 a2_7 a2_8 a2_9 ((rd_T40 l1 x9_1).f0) ((rd_T40 l1 x9_1).f1) ((rd_T40 l1 x9_1).f2) ((rd_T40 l1 x9_1).f3) ((rd_T40 l1 x9_1).f4) t178 _ A41.out).mono ?_
              rintro e w52 ⟨rfl, hb⟩
              refine ⟨_, rfl, ?_⟩
              have n0_ := Aside0.mk (Kd.R_below (by (with_reducible repeat (first | apply Kd.R_alloc | apply Kd.R_drewN | apply Kd.R_drew)); exact HO_167001.out) hb)
              have n1_ := Aside0.mk (blk_below (g := gb158) (o := .cells #[.string a0_0, .slice A0_1 l0_1.length c0_1] 24 (0, 0)) (by (with_reducible repeat (first | refine blk_drewN ?_ _ | refine blk_drew ?_ | refine blk_alloc ?_ _)); exact BK158.out) hb)
              have n2_ := Aside0.mk (blk_below (g := gb159) (o := .cells #[.bool a2_0, .int .i64 a2_1, .int .u32 a2_2, .int .i64 a2_3, .int .u32 a2_4, .int .i64 a2_5, .int .u32 a2_6, .int .u32 a2_7, .int .u32 a2_8, .int .u32 a2_9] 33 (0, 0)) (by (with_reducible repeat (first | refine blk_drewN ?_ _ | refine blk_drew ?_ | refine blk_alloc ?_ _)); exact BK159.out) hb)
              have n3_ := Aside0.mk (blk_below (g := gb166) (o := .cells #[.string a0_0, .slice Ao20 y163.length co20] 24 (0, 0)) (by (with_reducible repeat (first | refine blk_drewN ?_ _ | refine blk_drew ?_ | refine blk_alloc ?_ _)); exact BK166.out) hb)
              have n4_ := Aside0.mk (below_step (by repeat (first | (with_reducible first | exact HB.out | apply below_alloc | apply pw_below_drewN | apply below_drew1 | refine below_set ?_ GE158.out | refine below_set ?_ GE159.out | refine below_set ?_ GE166.out) | exact HB.out)) hb)
              clear HO_167001
              clear BK158
              clear BK159
              clear BK166
              clear HB
              have HO_167001 := n0_
              have BK158 := n1_
              have BK159 := n2_
              have BK166 := n3_
              have HB := n4_
              clear n0_ n1_ n2_ n3_ n4_
              (try clear hb)
              (try clear hb2)
              (try clear hk)
              (try clear hi)
              refine hK.out _ _ ⟨(blk_cell BK159.out 0).trans rfl, (blk_cell BK159.out 1).trans rfl, (blk_cell BK159.out 2).trans rfl, (blk_cell BK159.out 3).trans rfl, (blk_cell BK159.out 4).trans rfl, (blk_cell BK159.out 5).trans rfl, (blk_cell BK159.out 6).trans rfl, (blk_cell BK159.out 7).trans rfl, (blk_cell BK159.out 8).trans rfl, (blk_cell BK159.out 9).trans rfl, (pw_cell_below HB.out hw177_0), (pw_cell_below HB.out hw177_1), (pw_cell_below HB.out hw177_2), (pw_cell_below HB.out hw177_3), (pw_cell_below HB.out hw177_4), (pw_cell_below HB.out hw179_0), (pw_cell_below HB.out hw179_1), (pw_cell_below HB.out hw179_2), (pw_cell_below HB.out hw179_3), (pw_cell_below HB.out hw179_4)⟩ (fun hHeld => ?_)
              clear hK K
              refine norm_ (a' := ?_) ?_ ?_
              rotate_left
              ·show Act.put _ (some 68) _ = _
               simp only [Act.put, List.setIfInBounds_toArray, List.set_cons_zero, List.set_cons_succ, i64_w, i32_w]
               rfl
              refine one_ (i := 11) (N := some 74) #[true, true, true, true, true, true, true, true, true, true, true, true, false, false, false, false, false, false, false, false, false, false, false] rfl rfl (one_of HT_.out (by kernel_rfl)) (by decide) (fun K hK => ?_)
              refine goes_ Try.func17 (by kernel_rfl) rfl #[.agg #[.bool a2_0, .int .i64 a2_1, .int .u32 a2_2, .int .i64 a2_3, .int .u32 a2_4, .int .i64 a2_5, .int .u32 a2_6, .int .u32 a2_7, .int .u32 a2_8, .int .u32 a2_9], .agg #[.int .u32 ((rd_T40 l1 x9_1).f0), .int .u32 ((rd_T40 l1 x9_1).f1), .int .u8 ((rd_T40 l1 x9_1).f2), .int .u16 ((rd_T40 l1 x9_1).f3), .int .u16 ((rd_T40 l1 x9_1).f4)]] (by rfl) rfl rfl (by (try simp only [List.map_toArray, List.map_cons, List.map_nil]); first | done | rfl | (simp only [List.length_drop, List.length_take]; rfl)) ?_
              with_reducible refine (waymarkref10_Fits.calls kj28 a2_0 a2_1 a2_2 a2_3 a2_4 a2_5 a2_6 a2_7 a2_8 a2_9 ((rd_T40 l1 x9_1).f0) ((rd_T40 l1 x9_1).f1) ((rd_T40 l1 x9_1).f2) ((rd_T40 l1 x9_1).f3) ((rd_T40 l1 x9_1).f4) t180 _ A42.out).mono ?_
              rintro e w53 ⟨rfl, hb⟩
              refine ⟨_, rfl, ?_⟩
              have n0_ := Aside0.mk (Kd.R_below (by (with_reducible repeat (first | apply Kd.R_alloc | apply Kd.R_drewN | apply Kd.R_drew)); exact HO_167001.out) hb)
              have n1_ := Aside0.mk (blk_below (g := gb158) (o := .cells #[.string a0_0, .slice A0_1 l0_1.length c0_1] 24 (0, 0)) (by (with_reducible repeat (first | refine blk_drewN ?_ _ | refine blk_drew ?_ | refine blk_alloc ?_ _)); exact BK158.out) hb)
              have n2_ := Aside0.mk (blk_below (g := gb159) (o := .cells #[.bool a2_0, .int .i64 a2_1, .int .u32 a2_2, .int .i64 a2_3, .int .u32 a2_4, .int .i64 a2_5, .int .u32 a2_6, .int .u32 a2_7, .int .u32 a2_8, .int .u32 a2_9] 33 (0, 0)) (by (with_reducible repeat (first | refine blk_drewN ?_ _ | refine blk_drew ?_ | refine blk_alloc ?_ _)); exact BK159.out) hb)
              have n3_ := Aside0.mk (blk_below (g := gb166) (o := .cells #[.string a0_0, .slice Ao20 y163.length co20] 24 (0, 0)) (by (with_reducible repeat (first | refine blk_drewN ?_ _ | refine blk_drew ?_ | refine blk_alloc ?_ _)); exact BK166.out) hb)
              have n4_ := Aside0.mk (below_step (by repeat (first | (with_reducible first | exact HB.out | apply below_alloc | apply pw_below_drewN | apply below_drew1 | refine below_set ?_ GE158.out | refine below_set ?_ GE159.out | refine below_set ?_ GE166.out) | exact HB.out)) hb)
              clear HO_167001
              clear BK158
              clear BK159
              clear BK166
              clear HB
              have HO_167001 := n0_
              have BK158 := n1_
              have BK159 := n2_
              have BK166 := n3_
              have HB := n4_
              clear n0_ n1_ n2_ n3_ n4_
              (try clear hb)
              (try clear hb2)
              (try clear hk)
              (try clear hi)
              refine hK.out _ _ ⟨(blk_cell BK159.out 0).trans rfl, (blk_cell BK159.out 1).trans rfl, (blk_cell BK159.out 2).trans rfl, (blk_cell BK159.out 3).trans rfl, (blk_cell BK159.out 4).trans rfl, (blk_cell BK159.out 5).trans rfl, (blk_cell BK159.out 6).trans rfl, (blk_cell BK159.out 7).trans rfl, (blk_cell BK159.out 8).trans rfl, (blk_cell BK159.out 9).trans rfl, (pw_cell_below HB.out hw177_0), (pw_cell_below HB.out hw177_1), (pw_cell_below HB.out hw177_2), (pw_cell_below HB.out hw177_3), (pw_cell_below HB.out hw177_4), (pw_cell_below HB.out hw179_0), (pw_cell_below HB.out hw179_1), (pw_cell_below HB.out hw179_2), (pw_cell_below HB.out hw179_3), (pw_cell_below HB.out hw179_4)⟩ (fun hHeld => ?_)
              clear hK K
              refine norm_ (a' := ?_) ?_ ?_
              rotate_left
              ·show Act.put _ (some 74) _ = _
               simp only [Act.put, List.setIfInBounds_toArray, List.set_cons_zero, List.set_cons_succ, i64_w, i32_w]
               rfl
              refine pure_ (i := 12) (N := some 75) (v := ?_) (a' := ?_) #[true, true, true, true, true, true, true, true, true, true, true, true, true, false, false, false, false, false, false, false, false, false, false] rfl rfl (any_of HT_.out (by kernel_rfl)) (fun _ _ _ h => h) (Or.inl ⟨by rfl, ?_⟩) ?_ ?_
              rotate_left
              ·intro w'
               go_simp
               with_reducible rfl
              rotate_left
              ·simp only [Act.put, List.setIfInBounds_toArray, List.set_cons_zero, List.set_cons_succ, i64_w, i32_w]
               rfl
              refine pure_ (i := 13) (N := some 76) (v := ?_) (a' := ?_) #[true, true, true, true, true, true, true, true, true, true, true, true, true, true, false, false, false, false, false, false, false, false, false] rfl rfl (any_of HT_.out (by kernel_rfl)) (fun _ _ _ h => h) (Or.inl ⟨by rfl, ?_⟩) ?_ ?_
              rotate_left
              ·intro w'
               go_simp
               with_reducible rfl
              rotate_left
              ·simp only [Act.put, List.setIfInBounds_toArray, List.set_cons_zero, List.set_cons_succ, i64_w, i32_w]
               rfl
              refine pure_ (i := 14) (N := some 77) (v := ?_) (a' := ?_) #[true, true, true, true, true, true, true, true, true, true, true, true, true, true, true, false, false, false, false, false, false, false, false] rfl rfl (any_of HT_.out (by kernel_rfl)) (fun _ _ _ h => h) (Or.inl ⟨by rfl, ?_⟩) ?_ ?_
              rotate_left
              ·intro w'
               go_simp
               with_reducible rfl
              rotate_left
              ·simp only [Act.put, List.setIfInBounds_toArray, List.set_cons_zero, List.set_cons_succ, i64_w, i32_w]
               rfl
              refine pure_ (i := 15) (N := some 78) (v := ?_) (a' := ?_) #[true, true, true, true, true, true, true, true, true, true, true, true, true, true, true, true, false, false, false, false, false, false, false] rfl rfl (any_of HT_.out (by kernel_rfl)) (fun _ _ _ h => h) (Or.inl ⟨by rfl, ?_⟩) ?_ ?_
              rotate_left
              ·intro w'
               go_simp
               with_reducible rfl
              rotate_left
              ·simp only [Act.put, List.setIfInBounds_toArray, List.set_cons_zero, List.set_cons_succ, i64_w, i32_w]
               rfl
              refine pure_ (i := 16) (N := some 79) (v := ?_) (a' := ?_) #[true, true, true, true, true, true, true, true, true, true, true, true, true, true, true, true, true, false, false, false, false, false, false] rfl rfl (any_of HT_.out (by kernel_rfl)) (fun _ _ _ h => h) (Or.inl ⟨by rfl, ?_⟩) ?_ ?_
              rotate_left
              ·intro w'
               go_simp
               with_reducible rfl
              rotate_left
              ·simp only [Act.put, List.setIfInBounds_toArray, List.set_cons_zero, List.set_cons_succ, i64_w, i32_w]
               rfl
              refine pure_ (i := 17) (N := some 80) (v := ?_) (a' := ?_) #[true, true, true, true, true, true, true, true, true, true, true, true, true, true, true, true, true, true, false, false, false, false, false] rfl rfl (any_of HT_.out (by kernel_rfl)) (fun _ _ _ h => h) (Or.inl ⟨by rfl, ?_⟩) ?_ ?_
              rotate_left
              ·intro w'
               go_simp
               with_reducible rfl
              rotate_left
              ·simp only [Act.put, List.setIfInBounds_toArray, List.set_cons_zero, List.set_cons_succ, i64_w, i32_w]
               rfl
              refine pure_ (i := 18) (N := some 81) (v := ?_) (a' := ?_) #[true, true, true, true, true, true, true, true, true, true, true, true, true, true, true, true, true, true, true, false, false, false, false] rfl rfl (any_of HT_.out (by kernel_rfl)) (fun _ _ _ h => h) (Or.inl ⟨by rfl, ?_⟩) ?_ ?_
              rotate_left
              ·intro w'
               go_simp
               with_reducible rfl
              rotate_left
              ·simp only [Act.put, List.setIfInBounds_toArray, List.set_cons_zero, List.set_cons_succ, i64_w, i32_w]
               rfl
              refine pure_ (i := 19) (N := some 82) (v := undef) (a' := ?_) #[true, true, true, true, true, true, true, true, true, true, true, true, true, true, true, true, true, true, true, true, false, false, false] rfl rfl (any_of HT_.out (by kernel_rfl)) (fun _ _ _ h => h) (Or.inr ⟨by rfl, rfl⟩) ?_ ?_
              rotate_left
              ·simp only [Act.put, List.setIfInBounds_toArray, List.set_cons_zero, List.set_cons_succ, i64_w, i32_w]
               rfl
              refine pure_ (i := 20) (N := some 83) (v := undef) (a' := ?_) #[true, true, true, true, true, true, true, true, true, true, true, true, true, true, true, true, true, true, true, true, true, false, false] rfl rfl (any_of HT_.out (by kernel_rfl)) (fun _ _ _ h => h) (Or.inr ⟨by rfl, rfl⟩) ?_ ?_
              rotate_left
              ·simp only [Act.put, List.setIfInBounds_toArray, List.set_cons_zero, List.set_cons_succ, i64_w, i32_w]
               rfl
              refine pure_ (i := 21) (N := some 84) (v := undef) (a' := ?_) #[true, true, true, true, true, true, true, true, true, true, true, true, true, true, true, true, true, true, true, true, true, true, false] rfl rfl (any_of HT_.out (by kernel_rfl)) (fun _ _ _ h => h) (Or.inr ⟨by rfl, rfl⟩) ?_ ?_
              rotate_left
              ·simp only [Act.put, List.setIfInBounds_toArray, List.set_cons_zero, List.set_cons_succ, i64_w, i32_w]
               rfl
              refine pure_ (i := 22) (N := some 85) (v := ?_) (a' := ?_) #[true, true, true, true, true, true, true, true, true, true, true, true, true, true, true, true, true, true, true, true, true, true, true] rfl rfl (any_of HT_.out (by kernel_rfl)) (fun _ _ _ h => h) (Or.inl ⟨by rfl, ?_⟩) ?_ ?_
              rotate_left
              ·intro w'
               go_simp
               with_reducible rfl
              rotate_left
              ·simp only [Act.put, List.setIfInBounds_toArray, List.set_cons_zero, List.set_cons_succ, i64_w, i32_w]
               rfl
              refine done_ (done_of HT_.out (by kernel_rfl)) ?_
              try go_wp2
              go_meet
              case rel => exact ⟨_, (true), (by first | rfl | (simp; done) | (simp [*]; done)), H', ⟨by have := HK1.out; have := HJ28.out; first | omega | exact Nat.le_refl _⟩, ⟨by (with_reducible repeat (first | apply Kd.R_alloc | apply Kd.R_drewN | apply Kd.R_drew)); exact HO_167001.out⟩, ⟨by (with_reducible repeat (first | refine blk_drewN ?_ _ | refine blk_drew ?_ | refine blk_alloc ?_ _)); exact BK158.out⟩, ⟨by (with_reducible repeat (first | refine blk_drewN ?_ _ | refine blk_drew ?_ | refine blk_alloc ?_ _)); exact BK159.out⟩, ⟨by (with_reducible repeat (first | refine blk_drewN ?_ _ | refine blk_drew ?_ | refine blk_alloc ?_ _)); exact BK166.out⟩, ⟨by repeat (first | (with_reducible first | exact HB.out | apply below_alloc | apply pw_below_drewN | apply below_drew1 | refine below_set ?_ GE158.out | refine below_set ?_ GE159.out | refine below_set ?_ GE166.out) | exact HB.out)⟩⟩
           case rest =>
            clear HC36
            try clear c1
            try clear p1
            try clear q1
            try clear hx1
            try clear p2
            try clear c4
            try clear c16
            try clear c17
            try clear p17
            try clear q17
            try clear hx17
            try clear c43
            try clear c43b0
            try clear c43b1
            try clear c43b2
            try clear c47
            try clear c47b0
            try clear c47b1
            try clear hx177_0
            try clear hx177_1
            try clear hx177_2
            try clear hx177_3
            try clear hx177_4
            try clear hx179_0
            try clear hx179_1
            try clear hx179_2
            try clear hx179_3
            try clear hx179_4
            try clear p177
            try clear p179
            try clear q177
            try clear q179
            obtain ⟨kq, x85_35, rfl, HA, HJ35, HO_167001, BK158, BK159, BK166, HB⟩ := hcut
            cases kq with
            | zero => exact absurd HA.out (by simp [waymarklaw10_FilterDecides_E.j2])
            | succ kj35 =>
             have H := HA.out
             clear HA
             simp only [waymarklaw10_FilterDecides_E.j2] at H
             by_cases c54 : x85_35 = true
             ·subst c54
              have H1 : (none) = some r := by rw [if_pos rfl] at H; exact H
              clear H
              have H := H1
              clear H1
              exact absurd H (by simp)
             ·replace c54 := Bool.eq_false_iff.mpr c54
              subst c54
              have H1 : (if t167 = 0 then (if 0 ≤ x9_1 then (if x9_1 < (l1.length : Int) then ((waymarkref10_Decides.f kj35 a0_0 l0_1 ((rd_T40 l1 x9_1).f0) ((rd_T40 l1 x9_1).f1) ((rd_T40 l1 x9_1).f2) ((rd_T40 l1 x9_1).f3) ((rd_T40 l1 x9_1).f4)).bind fun t182 => (if t172 = t182 then ((waymarkref10_Permits.f kj35 a0_0 l0_1 ((rd_T40 l1 x9_1).f0) ((rd_T40 l1 x9_1).f1) ((rd_T40 l1 x9_1).f2) ((rd_T40 l1 x9_1).f3) ((rd_T40 l1 x9_1).f4)).bind fun t184 => (if (t175 != t184) = true then (none) else (waymarklaw10_FilterDecides_E.l0 kj35 l1 t167 (wrap64 (x9_1 + 1)) a0_0 l0_1 a2_0 a2_1 a2_2 a2_3 a2_4 a2_5 a2_6 a2_7 a2_8 a2_9 a0_0 y163))) else (none))) else (none)) else (none)) else (if t172 = 0 then (if t175 = true then (none) else (waymarklaw10_FilterDecides_E.l0 kj35 l1 t167 (wrap64 (x9_1 + 1)) a0_0 l0_1 a2_0 a2_1 a2_2 a2_3 a2_4 a2_5 a2_6 a2_7 a2_8 a2_9 a0_0 y163)) else (none))) = some r := by rw [if_neg (show ¬ (false = true) by decide)] at H; exact H
              clear H
              have H := H1
              clear H1
              by_cases c55 : t167 = 0
              ·rw [if_pos c55] at H
               have c55b0 : (t167 == 0) = true := beq_iff_eq.mpr c55
               have c55b1 : (t167 != 0) = false := bne_eq_false_iff_eq.mpr c55
               clear c55
               by_cases c56 : 0 ≤ x9_1
               ·rw [if_pos c56] at H
                have c56b0 : decide (0 ≤ x9_1) = true := decide_eq_true c56
                clear c56
                by_cases c57 : x9_1 < (l1.length : Int)
                ·rw [if_pos c57] at H
                 have c57b0 : decide (x9_1 < (l1.length : Int)) = true := decide_eq_true c57
                 clear c57
                 replace H := Option.bind_eq_some_iff.mp H
                 obtain ⟨t182, A580, H⟩ := H
                 replace H : (if t172 = t182 then ((waymarkref10_Permits.f kj35 a0_0 l0_1 ((rd_T40 l1 x9_1).f0) ((rd_T40 l1 x9_1).f1) ((rd_T40 l1 x9_1).f2) ((rd_T40 l1 x9_1).f3) ((rd_T40 l1 x9_1).f4)).bind fun t184 => (if (t175 != t184) = true then (none) else (waymarklaw10_FilterDecides_E.l0 kj35 l1 t167 (wrap64 (x9_1 + 1)) a0_0 l0_1 a2_0 a2_1 a2_2 a2_3 a2_4 a2_5 a2_6 a2_7 a2_8 a2_9 a0_0 y163))) else (none)) = some r := H
                 have A58 := Aside0.mk A580
                 clear A580
                 by_cases c59 : t172 = t182
                 ·rw [if_pos c59] at H
                  have c59b0 : (t172 == t182) = true := beq_iff_eq.mpr c59
                  have c59b1 : (t172 != t182) = false := bne_eq_false_iff_eq.mpr c59
                  clear c59
                  replace H := Option.bind_eq_some_iff.mp H
                  obtain ⟨t184, A600, H⟩ := H
                  replace H : (if (t175 != t184) = true then (none) else (waymarklaw10_FilterDecides_E.l0 kj35 l1 t167 (wrap64 (x9_1 + 1)) a0_0 l0_1 a2_0 a2_1 a2_2 a2_3 a2_4 a2_5 a2_6 a2_7 a2_8 a2_9 a0_0 y163)) = some r := H
                  have A60 := Aside0.mk A600
                  clear A600
                  by_cases c61 : (t175 != t184) = true
                  ·rw [if_pos c61] at H
                   exact absurd H (by simp)
                  ·rw [if_neg c61] at H
                   have c61b0 : (t175 != t184) = false := by simpa using c61
                   (try (have c61b1 : decide (t175 = t184) = true := by simpa using c61))
                   (try (have c61b2 : (t175 == t184) = true := by simpa using c61))
                   clear c61
                   have H' := Aside0.mk H
                   clear H
                   try go_wp2
                   have n0_ := Aside0.mk (Kd.R_drew HO_167001.out)
                   have n1_ := Aside0.mk (blk_drew BK158.out)
                   have n2_ := Aside0.mk (blk_drew BK159.out)
                   have n3_ := Aside0.mk (blk_drew BK166.out)
                   have n4_ := Aside0.mk (below_drew1 HB.out)
                   clear HO_167001
                   clear BK158
                   clear BK159
                   clear BK166
                   clear HB
                   have HO_167001 := n0_
                   have BK158 := n1_
                   have BK159 := n2_
                   have BK166 := n3_
                   have HB := n4_
                   clear n0_ n1_ n2_ n3_ n4_
                   have p181 : 0 ≤ (x9_1 : Int) := of_decide_eq_true (by first | (with_reducible assumption) | assumption)
                   have q181 : x9_1 < (l1.length : Int) := of_decide_eq_true (by first | (with_reducible assumption) | assumption)
                   obtain ⟨ad181, e181, hx181_0, hx181_1, hx181_2, hx181_3, hx181_4⟩ := at_T40 HR1.out x9_1 p181 q181
                   have hw181_4 := hx181_4
                   have hw181_3 := hx181_3
                   have hw181_2 := hx181_2
                   have hw181_1 := hx181_1
                   have hw181_0 := hx181_0
                   obtain rfl : ad171 = ad181 := (by injection e181)
                   replace hx181_0 := pw_cell_below HB.out hx181_0
                   replace hx181_1 := pw_cell_below HB.out hx181_1
                   replace hx181_2 := pw_cell_below HB.out hx181_2
                   replace hx181_3 := pw_cell_below HB.out hx181_3
                   replace hx181_4 := pw_cell_below HB.out hx181_4
                   replace p181 := eq_true p181
                   replace q181 := eq_true q181
                   have p183 : 0 ≤ (x9_1 : Int) := of_decide_eq_true (by first | (with_reducible assumption) | assumption)
                   have q183 : x9_1 < (l1.length : Int) := of_decide_eq_true (by first | (with_reducible assumption) | assumption)
                   obtain ⟨ad183, e183, hx183_0, hx183_1, hx183_2, hx183_3, hx183_4⟩ := at_T40 HR1.out x9_1 p183 q183
                   have hw183_4 := hx183_4
                   have hw183_3 := hx183_3
                   have hw183_2 := hx183_2
                   have hw183_1 := hx183_1
                   have hw183_0 := hx183_0
                   obtain rfl : ad171 = ad183 := (by injection e183)
                   replace hx183_0 := pw_cell_below HB.out hx183_0
                   replace hx183_1 := pw_cell_below HB.out hx183_1
                   replace hx183_2 := pw_cell_below HB.out hx183_2
                   replace hx183_3 := pw_cell_below HB.out hx183_3
                   replace hx183_4 := pw_cell_below HB.out hx183_4
                   replace p183 := eq_true p183
                   replace q183 := eq_true q183
                   refine start_ (n := 18) (S := fun w' => w'.cell? ⟨gb158, 0, none⟩ = some (.string a0_0) ∧ w'.cell? ⟨gb158, 1, none⟩ = some (.slice A0_1 l0_1.length c0_1) ∧ w'.cell? (ad171.add ((x9_1).toNat * 5)) = some (.int .u32 ((rd_T40 l1 x9_1).f0)) ∧ w'.cell? ⟨(ad171.add ((x9_1).toNat * 5)).block, (ad171.add ((x9_1).toNat * 5)).off + 1, none⟩ = some (.int .u32 ((rd_T40 l1 x9_1).f1)) ∧ w'.cell? ⟨(ad171.add ((x9_1).toNat * 5)).block, (ad171.add ((x9_1).toNat * 5)).off + 2, none⟩ = some (.int .u8 ((rd_T40 l1 x9_1).f2)) ∧ w'.cell? ⟨(ad171.add ((x9_1).toNat * 5)).block, (ad171.add ((x9_1).toNat * 5)).off + 3, none⟩ = some (.int .u16 ((rd_T40 l1 x9_1).f3)) ∧ w'.cell? ⟨(ad171.add ((x9_1).toNat * 5)).block, (ad171.add ((x9_1).toNat * 5)).off + 4, none⟩ = some (.int .u16 ((rd_T40 l1 x9_1).f4)) ∧ w'.cell? (ad171.add ((x9_1).toNat * 5)) = some (.int .u32 ((rd_T40 l1 x9_1).f0)) ∧ w'.cell? ⟨(ad171.add ((x9_1).toNat * 5)).block, (ad171.add ((x9_1).toNat * 5)).off + 1, none⟩ = some (.int .u32 ((rd_T40 l1 x9_1).f1)) ∧ w'.cell? ⟨(ad171.add ((x9_1).toNat * 5)).block, (ad171.add ((x9_1).toNat * 5)).off + 2, none⟩ = some (.int .u8 ((rd_T40 l1 x9_1).f2)) ∧ w'.cell? ⟨(ad171.add ((x9_1).toNat * 5)).block, (ad171.add ((x9_1).toNat * 5)).off + 3, none⟩ = some (.int .u16 ((rd_T40 l1 x9_1).f3)) ∧ w'.cell? ⟨(ad171.add ((x9_1).toNat * 5)).block, (ad171.add ((x9_1).toNat * 5)).off + 4, none⟩ = some (.int .u16 ((rd_T40 l1 x9_1).f4))) (ds := []) #[false, false, false, false, false, false, false, false, false, false, false, false, false, false, false, false, false, false] (by kernel_rfl) rfl rfl ⟨(blk_cell BK158.out 0).trans rfl, (blk_cell BK158.out 1).trans rfl, (pw_cell_below HB.out hw181_0), (pw_cell_below HB.out hw181_1), (pw_cell_below HB.out hw181_2), (pw_cell_below HB.out hw181_3), (pw_cell_below HB.out hw181_4), (pw_cell_below HB.out hw183_0), (pw_cell_below HB.out hw183_1), (pw_cell_below HB.out hw183_2), (pw_cell_below HB.out hw183_3), (pw_cell_below HB.out hw183_4)⟩ (fun hHeld => ?_); refine with_tabW waymarklaw10_FilterDecides_E.tab17 waymarklaw10_FilterDecides_E.bits17 (fun HT_ HW_ => ?_)
                   generalize wc.drew = w62 at HO_167001 BK158 BK159 BK166 HB hx181_0 hx181_1 hx181_2 hx181_3 hx181_4 hx183_0 hx183_1 hx183_2 hx183_3 hx183_4 hHeld ⊢
                   refine pure_ (i := 0) (N := some 93) (v := ?_) (a' := ?_) #[true, false, false, false, false, false, false, false, false, false, false, false, false, false, false, false, false, false] rfl rfl (any_of HT_.out (by kernel_rfl)) (fun _ _ _ h => h) (Or.inl ⟨by rfl, ?_⟩) ?_ ?_
                   rotate_left
                   ·intro w'
                    go_simp
                    with_reducible rfl
                   rotate_left
                   ·simp only [Act.put, List.setIfInBounds_toArray, List.set_cons_zero, List.set_cons_succ, i64_w, i32_w]
                    rfl
                   refine pure_ (i := 2) (N := some 95) (v := ?_) (a' := ?_) #[true, false, true, false, false, false, false, false, false, false, false, false, false, false, false, false, false, false] rfl rfl (any_of HT_.out (by kernel_rfl)) (fun _ _ _ h => h) (Or.inl ⟨by rfl, ?_⟩) ?_ ?_
                   rotate_left
                   ·intro w'
                    go_simp
                    with_reducible rfl
                   rotate_left
                   ·simp only [Act.put, List.setIfInBounds_toArray, List.set_cons_zero, List.set_cons_succ, i64_w, i32_w]
                    rfl
                   refine pure_ (i := 3) (N := some 96) (v := ?_) (a' := ?_) #[true, false, true, true, false, false, false, false, false, false, false, false, false, false, false, false, false, false] rfl rfl (any_of HT_.out (by kernel_rfl)) (fun _ _ _ h => h) (Or.inl ⟨by rfl, ?_⟩) ?_ ?_
                   rotate_left
                   ·intro w'
                    go_simp
                    with_reducible rfl
                   rotate_left
                   ·simp only [Act.put, List.setIfInBounds_toArray, List.set_cons_zero, List.set_cons_succ, i64_w, i32_w]
                    rfl
                   refine pure_ (i := 4) (N := some 97) (v := ?_) (a' := ?_) #[true, false, true, true, true, false, false, false, false, false, false, false, false, false, false, false, false, false] rfl rfl (any_of HT_.out (by kernel_rfl)) (fun _ _ _ h => h) (Or.inl ⟨by rfl, ?_⟩) ?_ ?_
                   rotate_left
                   ·intro w'
                    go_simp
                    with_reducible rfl
                   rotate_left
                   ·simp only [Act.put, List.setIfInBounds_toArray, List.set_cons_zero, List.set_cons_succ, i64_w, i32_w]
                    rfl
                   refine take_ (i := 1) (N := some 94) (v := ?_) (a' := ?_) #[true, true, true, true, true, false, false, false, false, false, false, false, false, false, false, false, false, false] rfl rfl (take_ofW HT_.out HW_.out (by kernel_rfl)) (fun _ _ _ h => h) (Or.inl ⟨by rfl, ?_⟩) hHeld ?_ ?_
                   rotate_left
                   ·rintro w' ⟨s0, s1, s2, s3, s4, s5, s6, s7, s8, s9, s10, s11⟩
                    go_simp
                    with_reducible rfl
                   rotate_left
                   ·simp only [Act.put, List.setIfInBounds_toArray, List.set_cons_zero, List.set_cons_succ, i64_w, i32_w]
                    rfl
                   refine take_ (i := 5) (N := some 98) (v := ?_) (a' := ?_) #[true, true, true, true, true, true, false, false, false, false, false, false, false, false, false, false, false, false] rfl rfl (take_ofW HT_.out HW_.out (by kernel_rfl)) (fun _ _ _ h => h) (Or.inl ⟨by rfl, ?_⟩) hHeld ?_ ?_
                   rotate_left
                   ·rintro w' ⟨s0, s1, s2, s3, s4, s5, s6, s7, s8, s9, s10, s11⟩
                    go_simp
                    with_reducible rfl
                   rotate_left
                   ·simp only [Act.put, List.setIfInBounds_toArray, List.set_cons_zero, List.set_cons_succ, i64_w, i32_w]
                    rfl
                   refine one_ (i := 6) (N := some 99) #[true, true, true, true, true, true, true, false, false, false, false, false, false, false, false, false, false, false] rfl rfl (one_of HT_.out (by kernel_rfl)) (by decide) (fun K hK => ?_)
                   refine goes_ Try.func18 (by kernel_rfl) rfl #[.agg #[.string a0_0, .slice A0_1 l0_1.length c0_1], .agg #[.int .u32 ((rd_T40 l1 x9_1).f0), .int .u32 ((rd_T40 l1 x9_1).f1), .int .u8 ((rd_T40 l1 x9_1).f2), .int .u16 ((rd_T40 l1 x9_1).f3), .int .u16 ((rd_T40 l1 x9_1).f4)]] (by rfl) rfl rfl (by (try simp only [List.map_toArray, List.map_cons, List.map_nil]); first | done | rfl | (simp only [List.length_drop, List.length_take]; rfl)) ?_
                   with_reducible refine (waymarkref10_Decides.calls kj35 a0_0 _ _ l0_1 ((rd_T40 l1 x9_1).f0) ((rd_T40 l1 x9_1).f1) ((rd_T40 l1 x9_1).f2) ((rd_T40 l1 x9_1).f3) ((rd_T40 l1 x9_1).f4) t182 _ ?side1 ?side2 A58.out).mono ?_
                   (case side1 => repeat (first | exact (Kd.C_below HR0_1.out HB.out) | (with_reducible refine Kd.C_alloc ?_ _) | (with_reducible refine Kd.C_drewN ?_ _) | (with_reducible refine Kd.C_drew ?_)))
                   (case side2 => exact HC0_1.out)
                   rintro e w63 ⟨rfl, hb⟩
                   refine ⟨_, rfl, ?_⟩
                   have n0_ := Aside0.mk (Kd.R_below (by (with_reducible repeat (first | apply Kd.R_alloc | apply Kd.R_drewN | apply Kd.R_drew)); exact HO_167001.out) hb)
                   have n1_ := Aside0.mk (blk_below (g := gb158) (o := .cells #[.string a0_0, .slice A0_1 l0_1.length c0_1] 24 (0, 0)) (by (with_reducible repeat (first | refine blk_drewN ?_ _ | refine blk_drew ?_ | refine blk_alloc ?_ _)); exact BK158.out) hb)
                   have n2_ := Aside0.mk (blk_below (g := gb159) (o := .cells #[.bool a2_0, .int .i64 a2_1, .int .u32 a2_2, .int .i64 a2_3, .int .u32 a2_4, .int .i64 a2_5, .int .u32 a2_6, .int .u32 a2_7, .int .u32 a2_8, .int .u32 a2_9] 33 (0, 0)) (by (with_reducible repeat (first | refine blk_drewN ?_ _ | refine blk_drew ?_ | refine blk_alloc ?_ _)); exact BK159.out) hb)
                   have n3_ := Aside0.mk (blk_below (g := gb166) (o := .cells #[.string a0_0, .slice Ao20 y163.length co20] 24 (0, 0)) (by (with_reducible repeat (first | refine blk_drewN ?_ _ | refine blk_drew ?_ | refine blk_alloc ?_ _)); exact BK166.out) hb)
                   have n4_ := Aside0.mk (below_step (by repeat (first | (with_reducible first | exact HB.out | apply below_alloc | apply pw_below_drewN | apply below_drew1 | refine below_set ?_ GE158.out | refine below_set ?_ GE159.out | refine below_set ?_ GE166.out) | exact HB.out)) hb)
                   clear HO_167001
                   clear BK158
                   clear BK159
                   clear BK166
                   clear HB
                   have HO_167001 := n0_
                   have BK158 := n1_
                   have BK159 := n2_
                   have BK166 := n3_
                   have HB := n4_
                   clear n0_ n1_ n2_ n3_ n4_
                   (try clear hb)
                   (try clear hb2)
                   (try clear hk)
                   (try clear hi)
                   refine hK.out _ _ ⟨(blk_cell BK158.out 0).trans rfl, (blk_cell BK158.out 1).trans rfl, (pw_cell_below HB.out hw181_0), (pw_cell_below HB.out hw181_1), (pw_cell_below HB.out hw181_2), (pw_cell_below HB.out hw181_3), (pw_cell_below HB.out hw181_4), (pw_cell_below HB.out hw183_0), (pw_cell_below HB.out hw183_1), (pw_cell_below HB.out hw183_2), (pw_cell_below HB.out hw183_3), (pw_cell_below HB.out hw183_4)⟩ (fun hHeld => ?_)
                   clear hK K
                   refine norm_ (a' := ?_) ?_ ?_
                   rotate_left
                   ·show Act.put _ (some 99) _ = _
                    simp only [Act.put, List.setIfInBounds_toArray, List.set_cons_zero, List.set_cons_succ, i64_w, i32_w]
                    rfl
                   refine pure_ (i := 7) (N := some 100) (v := ?_) (a' := ?_) #[true, true, true, true, true, true, true, true, false, false, false, false, false, false, false, false, false, false] rfl rfl (any_of HT_.out (by kernel_rfl)) (fun _ _ _ h => h) (Or.inl ⟨by rfl, ?_⟩) ?_ ?_
                   rotate_left
                   ·intro w'
                    go_simp
                    with_reducible rfl
                   rotate_left
                   ·simp only [Act.put, List.setIfInBounds_toArray, List.set_cons_zero, List.set_cons_succ, i64_w, i32_w]
                    rfl
                   refine pure_ (i := 8) (N := some 101) (v := ?_) (a' := ?_) #[true, true, true, true, true, true, true, true, true, false, false, false, false, false, false, false, false, false] rfl rfl (any_of HT_.out (by kernel_rfl)) (fun _ _ _ h => h) (Or.inl ⟨by rfl, ?_⟩) ?_ ?_
                   rotate_left
                   ·intro w'
                    go_simp
                    with_reducible rfl
                   rotate_left
                   ·simp only [Act.put, List.setIfInBounds_toArray, List.set_cons_zero, List.set_cons_succ, i64_w, i32_w]
                    rfl
                   refine pure_ (i := 9) (N := some 102) (v := ?_) (a' := ?_) #[true, true, true, true, true, true, true, true, true, true, false, false, false, false, false, false, false, false] rfl rfl (any_of HT_.out (by kernel_rfl)) (fun _ _ _ h => h) (Or.inl ⟨by rfl, ?_⟩) ?_ ?_
                   rotate_left
                   ·intro w'
                    go_simp
                    with_reducible rfl
                   rotate_left
                   ·simp only [Act.put, List.setIfInBounds_toArray, List.set_cons_zero, List.set_cons_succ, i64_w, i32_w]
                    rfl
                   refine pure_ (i := 11) (N := some 104) (v := ?_) (a' := ?_) #[true, true, true, true, true, true, true, true, true, true, false, true, false, false, false, false, false, false] rfl rfl (any_of HT_.out (by kernel_rfl)) (fun _ _ _ h => h) (Or.inl ⟨by rfl, ?_⟩) ?_ ?_
                   rotate_left
                   ·intro w'
                    go_simp
                    with_reducible rfl
                   rotate_left
                   ·simp only [Act.put, List.setIfInBounds_toArray, List.set_cons_zero, List.set_cons_succ, i64_w, i32_w]
                    rfl
                   refine pure_ (i := 12) (N := some 105) (v := ?_) (a' := ?_) #[true, true, true, true, true, true, true, true, true, true, false, true, true, false, false, false, false, false] rfl rfl (any_of HT_.out (by kernel_rfl)) (fun _ _ _ h => h) (Or.inl ⟨by rfl, ?_⟩) ?_ ?_
                   rotate_left
                   ·intro w'
                    go_simp
                    with_reducible rfl
                   rotate_left
                   ·simp only [Act.put, List.setIfInBounds_toArray, List.set_cons_zero, List.set_cons_succ, i64_w, i32_w]
                    rfl
                   refine pure_ (i := 13) (N := some 106) (v := ?_) (a' := ?_) #[true, true, true, true, true, true, true, true, true, true, false, true, true, true, false, false, false, false] rfl rfl (any_of HT_.out (by kernel_rfl)) (fun _ _ _ h => h) (Or.inl ⟨by rfl, ?_⟩) ?_ ?_
                   rotate_left
                   ·intro w'
                    go_simp
                    with_reducible rfl
                   rotate_left
                   ·simp only [Act.put, List.setIfInBounds_toArray, List.set_cons_zero, List.set_cons_succ, i64_w, i32_w]
                    rfl
                   refine take_ (i := 10) (N := some 103) (v := ?_) (a' := ?_) #[true, true, true, true, true, true, true, true, true, true, true, true, true, true, false, false, false, false] rfl rfl (take_ofW HT_.out HW_.out (by kernel_rfl)) (fun _ _ _ h => h) (Or.inl ⟨by rfl, ?_⟩) hHeld ?_ ?_
                   rotate_left
                   ·rintro w' ⟨s0, s1, s2, s3, s4, s5, s6, s7, s8, s9, s10, s11⟩
                    go_simp
                    with_reducible rfl
                   rotate_left
                   ·simp only [Act.put, List.setIfInBounds_toArray, List.set_cons_zero, List.set_cons_succ, i64_w, i32_w]
                    rfl
                   refine take_ (i := 14) (N := some 107) (v := ?_) (a' := ?_) #[true, true, true, true, true, true, true, true, true, true, true, true, true, true, true, false, false, false] rfl rfl (take_ofW HT_.out HW_.out (by kernel_rfl)) (fun _ _ _ h => h) (Or.inl ⟨by rfl, ?_⟩) hHeld ?_ ?_
                   rotate_left
                   ·rintro w' ⟨s0, s1, s2, s3, s4, s5, s6, s7, s8, s9, s10, s11⟩
                    go_simp
                    with_reducible rfl
                   rotate_left
                   ·simp only [Act.put, List.setIfInBounds_toArray, List.set_cons_zero, List.set_cons_succ, i64_w, i32_w]
                    rfl
                   refine one_ (i := 15) (N := some 108) #[true, true, true, true, true, true, true, true, true, true, true, true, true, true, true, true, false, false] rfl rfl (one_of HT_.out (by kernel_rfl)) (by decide) (fun K hK => ?_)
                   refine goes_ Try.func19 (by kernel_rfl) rfl #[.agg #[.string a0_0, .slice A0_1 l0_1.length c0_1], .agg #[.int .u32 ((rd_T40 l1 x9_1).f0), .int .u32 ((rd_T40 l1 x9_1).f1), .int .u8 ((rd_T40 l1 x9_1).f2), .int .u16 ((rd_T40 l1 x9_1).f3), .int .u16 ((rd_T40 l1 x9_1).f4)]] (by rfl) rfl rfl (by (try simp only [List.map_toArray, List.map_cons, List.map_nil]); first | done | rfl | (simp only [List.length_drop, List.length_take]; rfl)) ?_
                   with_reducible refine (waymarkref10_Permits.calls kj35 a0_0 _ _ l0_1 ((rd_T40 l1 x9_1).f0) ((rd_T40 l1 x9_1).f1) ((rd_T40 l1 x9_1).f2) ((rd_T40 l1 x9_1).f3) ((rd_T40 l1 x9_1).f4) t184 _ ?side1 ?side2 A60.out).mono ?_
                   (case side1 => repeat (first | exact (Kd.C_below HR0_1.out HB.out) | (with_reducible refine Kd.C_alloc ?_ _) | (with_reducible refine Kd.C_drewN ?_ _) | (with_reducible refine Kd.C_drew ?_)))
                   (case side2 => exact HC0_1.out)
                   rintro e w64 ⟨rfl, hb⟩
                   refine ⟨_, rfl, ?_⟩
                   have n0_ := Aside0.mk (Kd.R_below (by (with_reducible repeat (first | apply Kd.R_alloc | apply Kd.R_drewN | apply Kd.R_drew)); exact HO_167001.out) hb)
                   have n1_ := Aside0.mk (blk_below (g := gb158) (o := .cells #[.string a0_0, .slice A0_1 l0_1.length c0_1] 24 (0, 0)) (by (with_reducible repeat (first | refine blk_drewN ?_ _ | refine blk_drew ?_ | refine blk_alloc ?_ _)); exact BK158.out) hb)
                   have n2_ := Aside0.mk (blk_below (g := gb159) (o := .cells #[.bool a2_0, .int .i64 a2_1, .int .u32 a2_2, .int .i64 a2_3, .int .u32 a2_4, .int .i64 a2_5, .int .u32 a2_6, .int .u32 a2_7, .int .u32 a2_8, .int .u32 a2_9] 33 (0, 0)) (by (with_reducible repeat (first | refine blk_drewN ?_ _ | refine blk_drew ?_ | refine blk_alloc ?_ _)); exact BK159.out) hb)
                   have n3_ := Aside0.mk (blk_below (g := gb166) (o := .cells #[.string a0_0, .slice Ao20 y163.length co20] 24 (0, 0)) (by (with_reducible repeat (first | refine blk_drewN ?_ _ | refine blk_drew ?_ | refine blk_alloc ?_ _)); exact BK166.out) hb)
                   have n4_ := Aside0.mk (below_step (by repeat (first | (with_reducible first | exact HB.out | apply below_alloc | apply pw_below_drewN | apply below_drew1 | refine below_set ?_ GE158.out | refine below_set ?_ GE159.out | refine below_set ?_ GE166.out) | exact HB.out)) hb)
                   clear HO_167001
                   clear BK158
                   clear BK159
                   clear BK166
                   clear HB
                   have HO_167001 := n0_
                   have BK158 := n1_
                   have BK159 := n2_
                   have BK166 := n3_
                   have HB := n4_
                   clear n0_ n1_ n2_ n3_ n4_
                   (try clear hb)
                   (try clear hb2)
                   (try clear hk)
                   (try clear hi)
                   refine hK.out _ _ ⟨(blk_cell BK158.out 0).trans rfl, (blk_cell BK158.out 1).trans rfl, (pw_cell_below HB.out hw181_0), (pw_cell_below HB.out hw181_1), (pw_cell_below HB.out hw181_2), (pw_cell_below HB.out hw181_3), (pw_cell_below HB.out hw181_4), (pw_cell_below HB.out hw183_0), (pw_cell_below HB.out hw183_1), (pw_cell_below HB.out hw183_2), (pw_cell_below HB.out hw183_3), (pw_cell_below HB.out hw183_4)⟩ (fun hHeld => ?_)
                   clear hK K
                   refine norm_ (a' := ?_) ?_ ?_
                   rotate_left
                   ·show Act.put _ (some 108) _ = _
                    simp only [Act.put, List.setIfInBounds_toArray, List.set_cons_zero, List.set_cons_succ, i64_w, i32_w]
                    rfl
                   refine pure_ (i := 16) (N := some 109) (v := ?_) (a' := ?_) #[true, true, true, true, true, true, true, true, true, true, true, true, true, true, true, true, true, false] rfl rfl (any_of HT_.out (by kernel_rfl)) (fun _ _ _ h => h) (Or.inl ⟨by rfl, ?_⟩) ?_ ?_
                   rotate_left
                   ·intro w'
                    go_simp
                    with_reducible rfl
                   rotate_left
                   ·simp only [Act.put, List.setIfInBounds_toArray, List.set_cons_zero, List.set_cons_succ, i64_w, i32_w]
                    rfl
                   refine pure_ (i := 17) (N := some 110) (v := ?_) (a' := ?_) #[true, true, true, true, true, true, true, true, true, true, true, true, true, true, true, true, true, true] rfl rfl (any_of HT_.out (by kernel_rfl)) (fun _ _ _ h => h) (Or.inl ⟨by rfl, ?_⟩) ?_ ?_
                   rotate_left
                   ·intro w'
                    go_simp
                    with_reducible rfl
                   rotate_left
                   ·simp only [Act.put, List.setIfInBounds_toArray, List.set_cons_zero, List.set_cons_succ, i64_w, i32_w]
                    rfl
                   refine done_ (done_of HT_.out (by kernel_rfl)) ?_
                   try go_wp2
                   go_roundg kj35
                   case measure => have := HK1.out; have := HJ28.out; have := HJ35.out; omega
                   case rel => exact ⟨(wrap64 (x9_1 + 1)), (by first | rfl | (simp; done) | (simp [*]; done)), H', ⟨by have := HK1.out; have := HJ28.out; have := HJ35.out; omega⟩, ⟨by (with_reducible repeat (first | apply Kd.R_alloc | apply Kd.R_drewN | apply Kd.R_drew)); exact HO_167001.out⟩, ⟨by (with_reducible repeat (first | refine blk_drewN ?_ _ | refine blk_drew ?_ | refine blk_alloc ?_ _)); exact BK158.out⟩, ⟨by (with_reducible repeat (first | refine blk_drewN ?_ _ | refine blk_drew ?_ | refine blk_alloc ?_ _)); exact BK159.out⟩, ⟨by (with_reducible repeat (first | refine blk_drewN ?_ _ | refine blk_drew ?_ | refine blk_alloc ?_ _)); exact BK166.out⟩, ⟨by repeat (first | (with_reducible first | exact HB.out | apply below_alloc | apply pw_below_drewN | apply below_drew1 | refine below_set ?_ GE158.out | refine below_set ?_ GE159.out | refine below_set ?_ GE166.out) | exact HB.out)⟩⟩
                 ·rw [if_neg c59] at H
                  have c59b0 : (t172 == t182) = false := beq_eq_false_iff_ne.mpr c59
                  have c59b1 : (t172 != t182) = true := bne_iff_ne.mpr c59
                  exact absurd H (by simp)
                ·rw [if_neg c57] at H
                 exact absurd H (by simp)
               ·rw [if_neg c56] at H
                exact absurd H (by simp)
              ·rw [if_neg c55] at H
               have c55b0 : (t167 == 0) = false := beq_eq_false_iff_ne.mpr c55
               have c55b1 : (t167 != 0) = true := bne_iff_ne.mpr c55
               by_cases c65 : t172 = 0
               ·rw [if_pos c65] at H
                have c65b0 : (t172 == 0) = true := beq_iff_eq.mpr c65
                have c65b1 : (t172 != 0) = false := bne_eq_false_iff_eq.mpr c65
                clear c65
                by_cases c66 : t175 = true
                ·subst c66
                 have H1 : (none) = some r := by rw [if_pos rfl] at H; exact H
                 clear H
                 have H := H1
                 clear H1
                 exact absurd H (by simp)
                ·replace c66 := Bool.eq_false_iff.mpr c66
                 subst c66
                 have H1 : (waymarklaw10_FilterDecides_E.l0 kj35 l1 t167 (wrap64 (x9_1 + 1)) a0_0 l0_1 a2_0 a2_1 a2_2 a2_3 a2_4 a2_5 a2_6 a2_7 a2_8 a2_9 a0_0 y163) = some r := by rw [if_neg (show ¬ (false = true) by decide)] at H; exact H
                 clear H
                 have H := H1
                 clear H1
                 have H' := Aside0.mk H
                 clear H
                 go_wp2
                 go_roundg kj35
                 case measure => have := HK1.out; have := HJ28.out; have := HJ35.out; omega
                 case rel => exact ⟨(wrap64 (x9_1 + 1)), (by first | rfl | (simp; done) | (simp [*]; done)), H', ⟨by have := HK1.out; have := HJ28.out; have := HJ35.out; omega⟩, ⟨by (with_reducible repeat (first | apply Kd.R_alloc | apply Kd.R_drewN | apply Kd.R_drew)); exact HO_167001.out⟩, ⟨by (with_reducible repeat (first | refine blk_drewN ?_ _ | refine blk_drew ?_ | refine blk_alloc ?_ _)); exact BK158.out⟩, ⟨by (with_reducible repeat (first | refine blk_drewN ?_ _ | refine blk_drew ?_ | refine blk_alloc ?_ _)); exact BK159.out⟩, ⟨by (with_reducible repeat (first | refine blk_drewN ?_ _ | refine blk_drew ?_ | refine blk_alloc ?_ _)); exact BK166.out⟩, ⟨by repeat (first | (with_reducible first | exact HB.out | apply below_alloc | apply pw_below_drewN | apply below_drew1 | refine below_set ?_ GE158.out | refine below_set ?_ GE159.out | refine below_set ?_ GE166.out) | exact HB.out)⟩⟩
               ·rw [if_neg c65] at H
                exact absurd H (by simp)
          ·rw [if_neg c33] at H
           exact absurd H (by simp)
         ·rw [if_neg c32] at H
          exact absurd H (by simp)
        ·replace c31 := Bool.eq_false_iff.mpr c31
         subst c31
         have H1 : ((waymarkref10_Rules.f kj28 y163 l0_1).bind fun t169 => (if t169 = true then ((waymarklaw10_awake.f).bind fun t170 => (some t170)) else (none))) = some r := by rw [if_neg (show ¬ (false = true) by decide)] at H; exact H
         clear H
         have H := H1
         clear H1
         replace H := Option.bind_eq_some_iff.mp H
         obtain ⟨t169, A670, H⟩ := H
         replace H : (if t169 = true then ((waymarklaw10_awake.f).bind fun t170 => (some t170)) else (none)) = some r := H
         have A67 := Aside0.mk A670
         clear A670
         by_cases c68 : t169 = true
         ·subst c68
          have H1 : ((waymarklaw10_awake.f).bind fun t170 => (some t170)) = some r := by rw [if_pos rfl] at H; exact H
          clear H
          have H := H1
          clear H1
          replace H := Option.bind_eq_some_iff.mp H
          obtain ⟨t170, A690, H⟩ := H
          replace H : (some t170) = some r := H
          have A69 := Aside0.mk A690
          clear A690
          obtain rfl := Option.some.inj H
          have hnb70 := NB166_158.out
          have hnc70 := NB158_166.out
          have hnb71 := NB166_159.out
          have hnc71 := NB159_166.out
          have hcz72_0 : wc.cell? ⟨gb166, 0, none⟩ = some (.string a0_0) := (blk_cell BK166.out 0).trans rfl
          have hcz72_1 : wc.cell? ⟨gb166, 1, none⟩ = some (.slice Ao20 y163.length co20) := (blk_cell BK166.out 1).trans rfl
          have hfz72_0 := blk_frozen BK166.out 0
          have hfz72_1 := blk_frozen BK166.out 1
          have hnb73 := NB158_159.out
          have hnc73 := NB159_158.out
          have hcz74_0 : wc.cell? ⟨gb158, 0, none⟩ = some (.string a0_0) := (blk_cell BK158.out 0).trans rfl
          have hcz74_1 : wc.cell? ⟨gb158, 1, none⟩ = some (.slice A0_1 l0_1.length c0_1) := (blk_cell BK158.out 1).trans rfl
          have hfz74_0 := blk_frozen BK158.out 0
          have hfz74_1 := blk_frozen BK158.out 1
          go_wp2_with (first | ((with_reducible refine gate_callee (f := 20) rfl ?_); refine goesL_ (some 115) rfl rfl Try.func20 (by kernel_rfl) rfl #[.slice Ao20 y163.length co20, .slice A0_1 l0_1.length c0_1] rfl (by (try simp only [List.map_toArray, List.map_cons, List.map_nil]); first | done | rfl | (simp only [List.length_drop, List.length_take]; rfl)) ?_; (with_reducible refine (waymarkref10_Rules.calls kj28 _ _ y163 _ _ l0_1 true _ ?side1 ?side2 ?side3 ?side4 A67.out).mono ?_); (case side1 => repeat (first | exact (Kd.R_reads' HO_167001.out).2.2 | (with_reducible refine Kd.C_alloc ?_ _) | (with_reducible refine Kd.C_drewN ?_ _) | (with_reducible refine Kd.C_drew ?_))); (case side2 => exact (Kd.R_reads' HO_167001.out).2.1); (case side3 => repeat (first | exact (Kd.C_below HR0_1.out HB.out) | (with_reducible refine Kd.C_alloc ?_ _) | (with_reducible refine Kd.C_drewN ?_ _) | (with_reducible refine Kd.C_drew ?_))); (case side4 => exact HC0_1.out); rintro e w' ⟨rfl, ⟨nd, rfl⟩⟩; refine ⟨_, rfl, ?_⟩) | (go_at_call 21; (with_reducible refine (waymarklaw10_awake.calls  t170 _ A69.out).mono ?_); rintro e w75 ⟨rfl, hb⟩; have n0_ := Aside0.mk (Kd.R_below (by (with_reducible repeat (first | apply Kd.R_alloc | apply Kd.R_drewN | apply Kd.R_drew)); exact HO_167001.out) hb); have n1_ := Aside0.mk (blk_below (g := gb158) (o := .cells #[.string a0_0, .slice A0_1 l0_1.length c0_1] 24 (0, 0)) (by (with_reducible repeat (first | refine blk_drewN ?_ _ | refine blk_drew ?_ | refine blk_alloc ?_ _)); exact BK158.out) hb); have n2_ := Aside0.mk (blk_below (g := gb159) (o := .cells #[.bool a2_0, .int .i64 a2_1, .int .u32 a2_2, .int .i64 a2_3, .int .u32 a2_4, .int .i64 a2_5, .int .u32 a2_6, .int .u32 a2_7, .int .u32 a2_8, .int .u32 a2_9] 33 (0, 0)) (by (with_reducible repeat (first | refine blk_drewN ?_ _ | refine blk_drew ?_ | refine blk_alloc ?_ _)); exact BK159.out) hb); have n3_ := Aside0.mk (blk_below (g := gb166) (o := .cells #[.string a0_0, .slice Ao20 y163.length co20] 24 (0, 0)) (by (with_reducible repeat (first | refine blk_drewN ?_ _ | refine blk_drew ?_ | refine blk_alloc ?_ _)); exact BK166.out) hb); have n4_ := Aside0.mk (below_step (by repeat (first | (with_reducible first | exact HB.out | apply below_alloc | apply pw_below_drewN | apply below_drew1 | refine below_set ?_ GE158.out | refine below_set ?_ GE159.out | refine below_set ?_ GE166.out) | exact HB.out)) hb); clear HO_167001; clear BK158; clear BK159; clear BK166; clear HB; have HO_167001 := n0_; have BK158 := n1_; have BK159 := n2_; have BK166 := n3_; have HB := n4_; clear n0_ n1_ n2_ n3_ n4_; (try clear hb); (try clear hb2); (try clear hk); (try clear hi)))
          go_ret
          exact ⟨by first | rfl | (simp [errW_none, errW_some] <;> rfl) | (simp [*, errW_none, errW_some] <;> rfl), by repeat (first | (with_reducible first | exact HB.out | apply below_alloc | apply pw_below_drewN | apply below_drew1 | refine below_set ?_ GE158.out | refine below_set ?_ GE159.out | refine below_set ?_ GE166.out) | exact HB.out)⟩
         ·replace c68 := Bool.eq_false_iff.mpr c68
          subst c68
          have H1 : (none) = some r := by rw [if_neg (show ¬ (false = true) by decide)] at H; exact H
          clear H
          have H := H1
          clear H1
          exact absurd H (by simp)
   ·rw [if_neg c8] at H
    exact absurd H (by simp)
  ·rw [if_neg c5] at H
   exact absurd H (by simp)

end Go.Proofs.Ytmoagoopdfpcnaa.Q
