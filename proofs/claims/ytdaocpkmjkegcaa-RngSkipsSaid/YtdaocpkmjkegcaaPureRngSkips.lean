/- Where a row stands any number of words later is as the reference has it. -/
import Derived.Test.YtdaocpkmjkegcaaXx11
import Derived.Test.YtdaocpkmjkegcaaLibRng
namespace Go.Proofs.Ytdaocpkmjkegcaa.Pure
open Go.RowKit Go.Proofs.Ytdaocpkmjkegcaa.X Go.Proofs.Ytdaocpkmjkegcaa.Ext Go.Proofs.YtdaocpkmjkegcaaW.PrintWords Go.Proofs.YtdaocpkmjkegcaaW.PrintLast
theorem RngSkips (a0_0 : Int) (a0_1 : Int) (a0_2 : Int) (a0_3 : Int) (a1 : Int) (w0_0 : (Lit.int .i64 a0_0).wf = true) (w0_1 : (Lit.int .i64 a0_1).wf = true) (w0_2 : (Lit.int .i64 a0_2).wf = true) (w0_3 : (Lit.int .i64 a0_3).wf = true) (w1 : (Lit.int .i64 a1).wf = true) : ∃ k, X.zoetropelaw03_RngSkips.f k a0_0 a0_1 a0_2 a0_3 a1 = some true := by
  have h0 := wf_i64 w0_0
  have h1 := wf_i64 w0_1
  have h2 := wf_i64 w0_2
  have h3 := wf_i64 w0_3
  have h4 := wf_i64 w1
  have ef : zoetropelaw03_fixed.f = some true := by decide +kernel
  refine ⟨manyG a1 + 1, ?_⟩
  have e1 : rng_Skip.f a0_0 a0_1 a0_2 a0_3 a1 = some (iterG (manyG a1) (a0_0, a0_1, a0_2, a0_3)) := rfl
  have e2 := ref_skip a0_0 a0_1 a0_2 a0_3 a1
  unfold zoetropelaw03_RngSkips.f
  rw [if_pos (by omega), ef]
  simp only [Option.bind_some, e1, e2]
end Go.Proofs.Ytdaocpkmjkegcaa.Pure
