/- Every step and stir of a place is as the reference has it. -/
import Derived.Test.YtdaocpkmjkegcaaXx9
import Derived.Test.YtdaocpkmjkegcaaLibRng
namespace Go.Proofs.Ytdaocpkmjkegcaa.Pure
open Go.RowKit Go.Proofs.Ytdaocpkmjkegcaa.X Go.Proofs.Ytdaocpkmjkegcaa.Ext Go.Proofs.YtdaocpkmjkegcaaW.PrintWords Go.Proofs.YtdaocpkmjkegcaaW.PrintLast
theorem RngSteps (a0_0 : Int) (a0_1 : Int) (a0_2 : Int) (a0_3 : Int) (a1 : Int) (w0_0 : (Lit.int .i64 a0_0).wf = true) (w0_1 : (Lit.int .i64 a0_1).wf = true) (w0_2 : (Lit.int .i64 a0_2).wf = true) (w0_3 : (Lit.int .i64 a0_3).wf = true) (w1 : (Lit.int .u32 a1).wf = true) : X.zoetropelaw03_RngSteps.f a0_0 a0_1 a0_2 a0_3 a1 = some true := by
  have h0 := wf_i64 w0_0
  have h1 := wf_i64 w0_1
  have h2 := wf_i64 w0_2
  have h3 := wf_i64 w0_3
  have h4 := wf_u32 w1
  have ef : zoetropelaw03_fixed.f = some true := by decide +kernel
  obtain ⟨r, e1⟩ : ∃ r, rng_Next.f a0_0 a0_1 a0_2 a0_3 = some r := ⟨_, rfl⟩
  have e2 : zoetroperef03_Next.f a0_0 a0_1 a0_2 a0_3 = some r := (ref_next _ _ _ _).trans e1
  obtain ⟨s, e3⟩ : ∃ s, rng_Stir.f a0_0 a0_1 a0_2 a0_3 a1 = some s := by unfold rng_Stir.f; rw [if_pos h4]; exact ⟨_, rfl⟩
  have e4 : zoetroperef03_Stir.f a0_0 a0_1 a0_2 a0_3 a1 = some s := e3
  unfold zoetropelaw03_RngSteps.f
  rw [if_pos (by omega), e1]
  simp only [Option.bind_some, e2, e3, e4, ef]
end Go.Proofs.Ytdaocpkmjkegcaa.Pure
