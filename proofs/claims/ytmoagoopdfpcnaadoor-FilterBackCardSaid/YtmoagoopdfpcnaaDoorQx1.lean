-- Written by a program of this session (wip/myprint) out of the translation, for this claim.
import Derived.Test.YtmoagoopdfpcnaaDoorQx0
namespace Go.Proofs.YtmoagoopdfpcnaaDoor.Q
open Go.RowKit Go.Proofs.YtmoagoopdfpcnaaDoorW.PrintWords Go.Proofs.YtmoagoopdfpcnaaDoorW.PrintLast Go.Proofs.YtmoagoopdfpcnaaDoorW.PrintMore
attribute [local go_sem] max2_int min2_int max_two min_two max_three min_three max_four min_four   -- for this text's walks alone
set_option linter.unusedVariables false
set_option linter.unusedSimpArgs false

theorem eqA36 (d : Nat) (w : World) (x0 y0 : Int) (x1 y1 : Int) :
    (Op.equalIn (d + 2) 36 (.agg #[.int .u32 x0, .int .u32 x1]) (.agg #[.int .u32 y0, .int .u32 y1])).run Tryd.prog w = .ok (x0 == y0 && (x1 == y1)) w := by
  refine eqA_of Tryd.underlying36 (by kernel_rfl) ?_
  refine eqf_cons (by rfl) (by go_simp; rfl) (by go_simp; rfl) (by go_simp) ?_
  exact eqf_last (by rfl) (by go_simp; rfl) (by go_simp; rfl) (by go_simp)
end Go.Proofs.YtmoagoopdfpcnaaDoor.Q
