/- filter.Parse, as the printed texts ask it. -/
import Derived.Test.YtmoagoopdfpcnaaDoorEFLawC
import Derived.Test.YtmoagoopdfpcnaaDoorFParseC
namespace Go.Proofs.YtmoagoopdfpcnaaDoor.Q
open Go.RowKit Go.Proofs.YtmoagoopdfpcnaaDoorW.PrintWords Go.Proofs.YtmoagoopdfpcnaaDoor.Txt
def filter_Parse.f (a0 : ByteArray) : Option (Bool × Int × Int × Int × Int × Int × Int × Int × Int × Int × Int) :=
  if a0.size < 4294967281 then (match ruleF a0.data.toList with
    | some r => some (r.permit, r.proto, r.src.1, r.src.2, r.dst.1, r.dst.2, r.sp.1, r.sp.2, r.dp.1, r.dp.2, 0)
    | none => some (false, 0, 0, 0, 0, 0, 0, 0, 0, 0, 4)) else none
theorem filter_Parse.calls (a0 : ByteArray) (r1 : Bool) (r2 r3 r4 r5 r6 r7 r8 r9 r10 r11 : Int) (w : World) (hG : Gs w) (h : filter_Parse.f a0 = some (r1, r2, r3, r4, r5, r6, r7, r8, r9, r10, r11)) :
    Calls Tryd.prog 20 #[.string a0] w fun e w' => e = .returned (.tuple #[.agg #[.bool r1, .int .i64 r2, .int .u32 r3, .int .i64 r4, .int .u32 r5, .int .i64 r6, .int .u32 r7, .int .u32 r8, .int .u32 r9, .int .u32 r10], .int .i64 r11]) ∧ Below w.heap.size w w' := by
  unfold filter_Parse.f at h
  split at h
  · rename_i hs
    refine filter_ParseK.calls 6 a0 r1 r2 r3 r4 r5 r6 r7 r8 r9 r10 r11 w hG ?_
    rw [parseK_some hs (Nat.le_refl 6), ← h]
    show some (match ruleF a0.data.toList with | some r => outR r | none => outZ) = _
    cases ruleF a0.data.toList <;> rfl
  · cases h
end Go.Proofs.YtmoagoopdfpcnaaDoor.Q
