/- Steps in two goes are steps at once; a timer that is set rings with the last of its steps. -/
import Derived.Test.YtjdoabeaoeihhaaXx9
import Derived.Test.YtjdoabeaoeihhaaLibTimer
namespace Go.Proofs.Ytjdoabeaoeihhaa.Pure
open Go.RowKit Go.Proofs.Ytjdoabeaoeihhaa.X Go.Proofs.Ytjdoabeaoeihhaa.Ext Go.Proofs.YtjdoabeaoeihhaaW.PrintWords Go.Proofs.YtjdoabeaoeihhaaW.PrintLast
theorem parts_fixed : zoetropelaw09_fixed.f 64 = some true := by decide +kernel
theorem TimerParts (a0_0 : Int) (a0_1 : Int) (a0_2 : Bool) (a0_3 : Int) (a0_4 : Int) (a0_5 : Int) (w0_0 : (Lit.int .u32 a0_0).wf = true) (w0_1 : (Lit.int .u32 a0_1).wf = true) (w0_3 : (Lit.int .i64 a0_3).wf = true) (w0_4 : (Lit.int .i64 a0_4).wf = true) (w0_5 : (Lit.int .u32 a0_5).wf = true) : ∃ k, X.zoetropelaw09_TimerParts.f k a0_0 a0_1 a0_2 a0_3 a0_4 a0_5 = some true := by
  refine ⟨64, ?_⟩
  have h0 := wf_u32 w0_0
  have h1 := wf_u32 w0_1
  have h3 := wf_i64 w0_3
  have h4 := wf_i64 w0_4
  have h5 := wf_u32 w0_5
  have m3 := i64_mask a0_3 38 (by omega) 274877906943 (by decide)
  have m4 := i64_mask a0_4 38 (by omega) 274877906943 (by decide)
  have hn := mod_range a0_3 (2 ^ 38) (by decide)
  have hm := mod_range a0_4 (2 ^ 38) (by decide)
  obtain ⟨n, en⟩ : ∃ n, n = a0_3 % 2 ^ 38 := ⟨_, rfl⟩
  obtain ⟨m, em⟩ : ∃ m, m = a0_4 % 2 ^ 38 := ⟨_, rfl⟩
  rw [← en] at m3 hn
  rw [← em] at m4 hm
  have e1 := ticks_at 63 a0_0 a0_1 a0_2 n h0 h1
  have rg := ticks_range a0_0 a0_1 a0_2 n h0 h1
  have e2 := ticks_at 63 (ticks a0_0 a0_1 a0_2 n).1 (ticks a0_0 a0_1 a0_2 n).2.1 (ticks a0_0 a0_1 a0_2 n).2.2 m (by rw [rg.1]; exact h0) rg.2
  rw [ticks_ticks a0_0 a0_1 a0_2 n m h0.1 hn.1 hm.1 (by omega)] at e2
  have hw : wrap64 (n + m) = n + m := by unfold wrap64; omega
  have e3 := ticks_at 63 a0_0 a0_1 a0_2 (n + m) h0 h1
  have e4 : timer_Write.f 0 0 false 0 a0_5 = some (a0_5, a0_5, false, 0) := by unfold timer_Write.f; rw [if_pos rfl]
  have hv : wrap64 a0_5 = a0_5 := by unfold wrap64; omega
  have hv1 : wrap64 (a0_5 - 1) = a0_5 - 1 := by unfold wrap64; omega
  have e5 := ticks_at 63 a0_5 a0_5 false (a0_5 - 1) h5 h5
  have e6 := ticks_at 63 a0_5 a0_5 false a0_5 h5 h5
  have r5 : (ticks a0_5 a0_5 false (a0_5 - 1)).2.2 = false := by
    unfold ticks
    split
    · rfl
    · split
      · rfl
      · rename_i c d
        exfalso
        have : clampN (a0_5 - 1) = a0_5 - 1 := by unfold clampN at c ⊢; (repeat' split) <;> omega
        have : one a0_5 = a0_5 := one_pos (by omega)
        omega
  have r6 : (ticks a0_5 a0_5 false a0_5).2.2 = decide (a0_5 > 0) := by
    unfold ticks
    by_cases z : a0_5 = 0
    · rw [if_pos (.inl z)]; simp [z]
    · have c1 : clampN a0_5 = a0_5 := by unfold clampN; (repeat' split) <;> omega
      have c2 : one a0_5 = a0_5 := one_pos (by omega)
      rw [c1, c2, if_neg (by omega), if_neg (by omega)]
      simp; omega
  unfold zoetropelaw09_TimerParts.f
  rw [if_pos (by omega), m3, m4, e1]
  simp only [Option.bind_some, e2, hw, e3, e4, hv, hv1, e5, e6, parts_fixed, r5, r6]
  simp
end Go.Proofs.Ytjdoabeaoeihhaa.Pure
