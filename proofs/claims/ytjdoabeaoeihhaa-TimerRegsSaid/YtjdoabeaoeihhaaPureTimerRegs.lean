/- The registers of every timer are as the reference has them. -/
import Derived.Test.YtjdoabeaoeihhaaXx5
import Derived.Test.YtjdoabeaoeihhaaLibTimer
namespace Go.Proofs.Ytjdoabeaoeihhaa.Pure
open Go.RowKit Go.Proofs.Ytjdoabeaoeihhaa.X Go.Proofs.Ytjdoabeaoeihhaa.Ext Go.Proofs.YtjdoabeaoeihhaaW.PrintWords Go.Proofs.YtjdoabeaoeihhaaW.PrintLast
theorem fixed_some : zoetropelaw09_fixed.f 64 = some true := by decide +kernel
theorem TimerRegs (a0_0 : Int) (a0_1 : Int) (a0_2 : Bool) (a1 : Int) (a2 : Int) (w0_0 : (Lit.int .u32 a0_0).wf = true) (w0_1 : (Lit.int .u32 a0_1).wf = true) (w1 : (Lit.int .u32 a1).wf = true) (w2 : (Lit.int .u32 a2).wf = true) : ∃ k, X.zoetropelaw09_TimerRegs.f k a0_0 a0_1 a0_2 a1 a2 = some true := by
  refine ⟨64, ?_⟩
  have h0 := wf_u32 w0_0
  have h1 := wf_u32 w0_1
  have h2 := wf_u32 w1
  have h3 := wf_u32 w2
  have hb : ∀ r, timer_bit.f r = some (if r = true then 1 else 0) := by intro r; cases r <;> rfl
  have hb2 : ∀ r, zoetroperef09_Bit.f r = some (if r = true then 1 else 0) := by intro r; cases r <;> rfl
  obtain ⟨r1, e1⟩ : ∃ r, timer_Read.f a0_0 a0_1 a0_2 a1 = some r := by
    unfold timer_Read.f; rw [hb]; simp only [Option.bind_some]; (repeat' split) <;> exact ⟨_, rfl⟩
  obtain ⟨r2, e2⟩ : ∃ r, zoetroperef09_Read.f a0_0 a0_1 a0_2 a1 = some r := by
    unfold zoetroperef09_Read.f; rw [hb2]; simp only [Option.bind_some]; (repeat' split) <;> exact ⟨_, rfl⟩
  obtain ⟨r3, e3⟩ : ∃ r, timer_Write.f a0_0 a0_1 a0_2 a1 a2 = some r := by
    unfold timer_Write.f; (repeat' split) <;> exact ⟨_, rfl⟩
  obtain ⟨r4, e4⟩ : ∃ r, zoetroperef09_Write.f a0_0 a0_1 a0_2 a1 a2 = some r := by
    unfold zoetroperef09_Write.f; (repeat' split) <;> exact ⟨_, rfl⟩
  unfold zoetropelaw09_TimerRegs.f
  rw [if_pos (by omega), e1]
  simp only [Option.bind_some, e2, e3, e4, fixed_some, beq_self_eq_true]
end Go.Proofs.Ytjdoabeaoeihhaa.Pure
