/- Where any row begins, and its first words, are as the reference has them. -/
import Derived.Test.YtdaocpkmjkegcaaXx7
import Derived.Test.YtdaocpkmjkegcaaLibRng
namespace Go.Proofs.Ytdaocpkmjkegcaa.Pure
open Go.RowKit Go.Proofs.Ytdaocpkmjkegcaa.X Go.Proofs.Ytdaocpkmjkegcaa.Ext Go.Proofs.YtdaocpkmjkegcaaW.PrintWords Go.Proofs.YtdaocpkmjkegcaaW.PrintLast
theorem seeds_loop (d : Nat) : ∀ (i : Int) (g : Int × Int × Int × Int), 0 ≤ i → i + d = 20 → ∀ k, d < k → zoetropelaw03_RngSeeds.l0 k i g.1 g.2.1 g.2.2.1 g.2.2.2 g.1 g.2.1 g.2.2.1 g.2.2.2 = some true := by
  have ef : zoetropelaw03_fixed.f = some true := by decide +kernel
  induction d with
  | zero =>
    intro i g h0 h1 k hk
    obtain ⟨k, rfl⟩ : ∃ q, k = q + 1 := ⟨k - 1, by omega⟩
    simp only [zoetropelaw03_RngSeeds.l0]
    rw [if_neg (by omega), ef]; rfl
  | succ d ih =>
    intro i g h0 h1 k hk
    obtain ⟨k, rfl⟩ : ∃ q, k = q + 1 := ⟨k - 1, by omega⟩
    have hw : wrap64 (i + 1) = i + 1 := by unfold wrap64; omega
    simp only [zoetropelaw03_RngSeeds.l0]
    rw [if_pos (by omega), ref_next, next_of]
    simp only [Option.bind_some, if_true, hw]
    rw [if_neg (by simp)]
    exact ih (i + 1) (rngStep g) (by omega) (by omega) k (by omega)
theorem RngSeeds : zoetropelaw03_RngSeeds.Pure := by
  intro a0 w0
  refine ⟨30, ?_⟩
  have h0 := wf_u32 w0
  obtain ⟨g, e1⟩ : ∃ g, rng_Seed.f a0 = some g := by unfold rng_Seed.f; rw [if_pos h0]; exact ⟨_, rfl⟩
  have e2 : zoetroperef03_Seed.f a0 = some g := (ref_seed a0 h0).trans e1
  unfold zoetropelaw03_RngSeeds.f
  rw [e1]
  simp only [Option.bind_some, e2]
  exact seeds_loop 20 0 g (by omega) (by omega) 30 (by omega)
end Go.Proofs.Ytdaocpkmjkegcaa.Pure
