/- What is stirred in twice is stirred in with both. -/
import Derived.Test.YtdaocpkmjkegcaaXx15
import Derived.Test.YtdaocpkmjkegcaaLibRng
namespace Go.Proofs.Ytdaocpkmjkegcaa.Pure
open Go.RowKit Go.Proofs.Ytdaocpkmjkegcaa.X Go.Proofs.Ytdaocpkmjkegcaa.Ext Go.Proofs.YtdaocpkmjkegcaaW.PrintWords Go.Proofs.YtdaocpkmjkegcaaW.PrintLast
theorem stir_of (a b c d n : Int) (h : 0 ≤ n ∧ n ≤ 4294967295) : rng_Stir.f a b c d n = some ((a % 65521 + n % 65536) % 65521, (b % 65521 + n / 65536) % 65521, c % 65521, d % 65521) := by unfold rng_Stir.f; rw [if_pos h]
theorem RngStirs (a0_0 : Int) (a0_1 : Int) (a0_2 : Int) (a0_3 : Int) (a1 : Int) (a2 : Int) (w0_0 : (Lit.int .i64 a0_0).wf = true) (w0_1 : (Lit.int .i64 a0_1).wf = true) (w0_2 : (Lit.int .i64 a0_2).wf = true) (w0_3 : (Lit.int .i64 a0_3).wf = true) (w1 : (Lit.int .u32 a1).wf = true) (w2 : (Lit.int .u32 a2).wf = true) : X.zoetropelaw03_RngStirs.f a0_0 a0_1 a0_2 a0_3 a1 a2 = some true := by
  have h0 := wf_i64 w0_0
  have h1 := wf_i64 w0_1
  have h2 := wf_i64 w0_2
  have h3 := wf_i64 w0_3
  have h4 := wf_u32 w1
  have h5 := wf_u32 w2
  have ef : zoetropelaw03_fixed.f = some true := by decide +kernel
  have e0 : rng_Skip.f a0_0 a0_1 a0_2 a0_3 0 = some (a0_0 % 65521, a0_1 % 65521, a0_2 % 65521, a0_3 % 65521) := rfl
  unfold zoetropelaw03_RngStirs.f
  rw [if_pos (by omega)]
  simp only [stir_of _ _ _ _ a1 h4, stir_of _ _ _ _ a2 h5, stir_of _ _ _ _ 0 (by omega), Option.bind_some, e0, ef]
  have x1 : ((a0_0 % 65521 + a1 % 65536) % 65521 % 65521 + a2 % 65536) % 65521 = ((a0_0 % 65521 + a2 % 65536) % 65521 % 65521 + a1 % 65536) % 65521 := by omega
  have x2 : ((a0_1 % 65521 + a1 / 65536) % 65521 % 65521 + a2 / 65536) % 65521 = ((a0_1 % 65521 + a2 / 65536) % 65521 % 65521 + a1 / 65536) % 65521 := by omega
  rw [x1, x2]
  simp
end Go.Proofs.Ytdaocpkmjkegcaa.Pure
