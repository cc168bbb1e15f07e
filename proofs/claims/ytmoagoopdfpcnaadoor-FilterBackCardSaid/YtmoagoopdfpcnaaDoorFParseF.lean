-- Written by a program of this session (wip/myprint) out of the translation, for this claim.
import Derived.Test.YtmoagoopdfpcnaaDoorQx0
import Derived.Test.YtmoagoopdfpcnaaDoorQx15
import Derived.Test.YtmoagoopdfpcnaaDoorQx12
import Derived.Test.YtmoagoopdfpcnaaDoorEEnds
import Derived.Test.YtmoagoopdfpcnaaDoorEPuX
import Derived.Test.YtmoagoopdfpcnaaDoorEStr
namespace Go.Proofs.YtmoagoopdfpcnaaDoor.Q
open Go.RowKit Go.Proofs.YtmoagoopdfpcnaaDoorW.PrintWords Go.Proofs.YtmoagoopdfpcnaaDoorW.PrintLast Go.Proofs.YtmoagoopdfpcnaaDoorW.PrintMore
attribute [local go_sem] max2_int min2_int max_two min_two max_three min_three max_four min_four   -- for this text's walks alone
set_option linter.unusedVariables false
set_option linter.unusedSimpArgs false

/-! ### filter_Parse: function 20 -/
def filter_ParseK.j0 : Nat → ByteArray → List ByteArray → Bool → Int → Int → Int → Int → Int → Int → Int → Int → Int → Option (Bool × Int × Int × Int × Int × Int × Int × Int × Int × Int × Int)
  | 0, _, _, _, _, _, _, _, _, _, _, _, _ => none
  | k + 1, x0, x4, x154000, x154001, x154002, x154003, x154004, x154005, x154006, x154007, x154008, x154009 => if 2 < (x4.length : Int) then ((addr_ParsePrefix.f k (rdOf ByteArray.empty x4 2)).bind fun bt160 => (if 3 < (x4.length : Int) then ((addr_ParsePrefix.f k (rdOf ByteArray.empty x4 3)).bind fun bt164 => ((filter_Text.f k x154000 x154001 bt160.1 bt160.2.1 bt164.1 bt164.2.1 x154006 x154007 x154008 x154009).bind fun bt167 => (if bt160.2.2 = 0 then (if bt164.2.2 = 0 then (if bt167.2 = 0 then (if bt167.1.toList = x0.toList then (some (x154000, x154001, bt160.1, bt160.2.1, bt164.1, bt164.2.1, x154006, x154007, x154008, x154009, 0)) else (some (false, 0, 0, 0, 0, 0, 0, 0, 0, 0, 4))) else (some (false, 0, 0, 0, 0, 0, 0, 0, 0, 0, 4))) else (some (false, 0, 0, 0, 0, 0, 0, 0, 0, 0, 4))) else (some (false, 0, 0, 0, 0, 0, 0, 0, 0, 0, 4))))) else (none))) else (none)
def filter_ParseK.f (k : Nat) (a0 : ByteArray) : Option (Bool × Int × Int × Int × Int × Int × Int × Int × Int × Int × Int) := (strings_Split.f a0 (⟨#[32]⟩ : ByteArray)).bind fun t143 => (if (t143.length : Int) = 6 then (if 0 < (t143.length : Int) then (if 4 < (t143.length : Int) then ((filter_ends.f (rdOf ByteArray.empty t143 4)).bind fun bt148 => (if 5 < (t143.length : Int) then ((filter_ends.f (rdOf ByteArray.empty t143 5)).bind fun bt151 => (if 1 < (t143.length : Int) then (if (rdOf ByteArray.empty t143 1).toList = ([97, 110, 121] : List UInt8) then (filter_ParseK.j0 k a0 t143 ((rdOf ByteArray.empty t143 0).toList == ([112, 101, 114, 109, 105, 116] : List UInt8)) (-1) 0 0 0 0 bt148.1 bt148.2 bt151.1 bt151.2) else ((strconv_ParseUint.f (rdOf ByteArray.empty t143 1) 10 8).bind fun bt156 => (if bt156.2.isNone = true then (filter_ParseK.j0 k a0 t143 ((rdOf ByteArray.empty t143 0).toList == ([112, 101, 114, 109, 105, 116] : List UInt8)) (wrap64 (bt156.1)) 0 0 0 0 bt148.1 bt148.2 bt151.1 bt151.2) else (some (false, 0, 0, 0, 0, 0, 0, 0, 0, 0, 4))))) else (none))) else (none))) else (none)) else (none)) else (some (false, 0, 0, 0, 0, 0, 0, 0, 0, 0, 4)))
theorem filter_ParseK.mono_l : ∀ k, (∀ y0 y1 y2 y3 y4 y5 y6 y7 y8 y9 y10 y11, LeO (filter_ParseK.j0 k y0 y1 y2 y3 y4 y5 y6 y7 y8 y9 y10 y11) (filter_ParseK.j0 (k + 1) y0 y1 y2 y3 y4 y5 y6 y7 y8 y9 y10 y11))
  | 0 => fun _ _ _ _ _ _ _ _ _ _ _ _ r h => by simp [filter_ParseK.j0] at h
  | k + 1 => by
    have ih0 := filter_ParseK.mono_l k
    · intro y0 y1 y2 y3 y4 y5 y6 y7 y8 y9 y10 y11
      unfold filter_ParseK.j0
      repeat' first
      | (with_reducible exact ih0 _ _ _ _ _ _ _ _ _ _ _ _)
      | (with_reducible exact addr_ParsePrefix.mono _ _)
      | (with_reducible exact filter_Text.mono _ _ _ _ _ _ _ _ _ _ _)
      | (with_reducible exact LeO.refl _)
      | (with_reducible exact LeO.none _)
      | (with_reducible refine LeO.ite ?_ ?_)
      | (with_reducible refine LeO.bind ?_ (fun _ => ?_))
      | exact ih0 _ _ _ _ _ _ _ _ _ _ _ _
      | exact addr_ParsePrefix.mono _ _
      | exact filter_Text.mono _ _ _ _ _ _ _ _ _ _ _
      | exact LeO.none _
      | refine LeO.ite ?_ ?_
      | refine LeO.bind ?_ (fun _ => ?_)
theorem filter_ParseK.mono : ∀ a0 k, LeO (filter_ParseK.f k a0) (filter_ParseK.f (k + 1) a0) := by
  intro a0 k
  have ih0 := filter_ParseK.mono_l k
  unfold filter_ParseK.f
  repeat' first
      | (with_reducible exact ih0 _ _ _ _ _ _ _ _ _ _ _ _)
      | (with_reducible exact addr_ParsePrefix.mono _ _)
      | (with_reducible exact filter_Text.mono _ _ _ _ _ _ _ _ _ _ _)
      | (with_reducible exact LeO.refl _)
      | (with_reducible exact LeO.none _)
      | (with_reducible refine LeO.ite ?_ ?_)
      | (with_reducible refine LeO.bind ?_ (fun _ => ?_))
      | exact ih0 _ _ _ _ _ _ _ _ _ _ _ _
      | exact addr_ParsePrefix.mono _ _
      | exact filter_Text.mono _ _ _ _ _ _ _ _ _ _ _
      | exact LeO.none _
      | refine LeO.ite ?_ ?_
      | refine LeO.bind ?_ (fun _ => ?_)
end Go.Proofs.YtmoagoopdfpcnaaDoor.Q
