/- So many rounds more leave a timer that rings where it is. -/
import Derived.Test.YtjdoabeaoeihhaaXx10
import Derived.Test.YtjdoabeaoeihhaaLibTimer
namespace Go.Proofs.Ytjdoabeaoeihhaa.Pure
open Go.RowKit Go.Proofs.Ytjdoabeaoeihhaa.X Go.Proofs.Ytjdoabeaoeihhaa.Ext Go.Proofs.YtjdoabeaoeihhaaW.PrintWords Go.Proofs.YtjdoabeaoeihhaaW.PrintLast
theorem far_fixed : zoetropelaw09_fixed.f 64 = some true := by decide +kernel
theorem far_prod (k e : Int) (hk : 0 ≤ k ∧ k ≤ 255) (he : 0 ≤ e ∧ e ≤ 4294967295) : 0 ≤ k * e ∧ k * e ≤ 1095216660225 := by
  refine ⟨Int.mul_nonneg hk.1 he.1, ?_⟩
  calc k * e ≤ 255 * e := Int.mul_le_mul_of_nonneg_right hk.2 he.1
    _ ≤ 1095216660225 := by omega
theorem far_round (e k : Int) (he : 1 ≤ e ∧ e ≤ 4294967295) (hk : 0 ≤ k ∧ k ≤ 255) : ticks e e true (k * e) = (e, e, true) := by
  have hp := far_prod k e hk ⟨by omega, he.2⟩
  have hc : clampN (k * e) = k * e := by unfold clampN; (repeat' split) <;> omega
  have ho : one e = e := one_pos he.1
  unfold ticks
  rw [hc, ho]
  by_cases c : k = 0
  · subst c; rw [if_pos (.inr (by simp))]
  · have h1 : e ≤ k * e := by
      have := Int.mul_le_mul_of_nonneg_right (show (1 : Int) ≤ k by omega) (show 0 ≤ e by omega)
      omega
    have hm : (k * e - e) % e = 0 := by
      have : k * e - e = (k - 1) * e := by rw [Int.sub_mul]; omega
      rw [this]; exact Int.mul_emod_left _ _
    rw [if_neg (by omega), if_neg (by omega), hm]
    simp
theorem far_last (e k : Int) (he : 1 ≤ e ∧ e ≤ 4294967295) (hk : 1 ≤ k ∧ k ≤ 255) : (ticks e e true (k * e - 1)).2.1 = 1 := by
  have hp := far_prod k e ⟨by omega, hk.2⟩ ⟨by omega, he.2⟩
  have h1 : e ≤ k * e := by
    have := Int.mul_le_mul_of_nonneg_right hk.1 (show 0 ≤ e by omega)
    omega
  have hc : clampN (k * e - 1) = k * e - 1 := by unfold clampN; (repeat' split) <;> omega
  have ho : one e = e := one_pos he.1
  unfold ticks
  rw [hc, ho]
  by_cases z : k * e - 1 = 0
  · rw [if_pos (.inr z)]; dsimp; omega
  · rw [if_neg (by omega)]
    by_cases f : k * e - 1 < e
    · rw [if_pos f]; dsimp
      have : k = 1 := by
        by_cases g : k = 1
        · exact g
        · have := Int.mul_le_mul_of_nonneg_right (show (2 : Int) ≤ k by omega) (show 0 ≤ e by omega)
          omega
      subst this; omega
    · rw [if_neg f]; dsimp
      have hm : (k * e - 1 - e) % e = e - 1 := by
        have := Int.add_mul_emod_self_right (e - 1) (k - 2) e
        rw [show e - 1 + (k - 2) * e = k * e - 1 - e from by rw [Int.sub_mul]; omega] at this
        rw [this, Int.emod_eq_of_lt (by omega) (by omega)]
      rw [hm]; omega
theorem TimerFar (a0_0 : Int) (a0_1 : Int) (a0_2 : Bool) (a1 : Int) (w0_0 : (Lit.int .u32 a0_0).wf = true) (w0_1 : (Lit.int .u32 a0_1).wf = true) (w1 : (Lit.int .i64 a1).wf = true) : ∃ k, X.zoetropelaw09_TimerFar.f k a0_0 a0_1 a0_2 a1 = some true := by
  refine ⟨64, ?_⟩
  have h0 := wf_u32 w0_0
  have h1 := wf_u32 w0_1
  have h2 := wf_i64 w1
  have m1 := i64_mask a1 8 (by omega) 255 (by decide)
  have hk := mod_range a1 (2 ^ 8) (by decide)
  obtain ⟨k, ek⟩ : ∃ k, k = a1 % 2 ^ 8 := ⟨_, rfl⟩
  rw [← ek] at m1 hk
  unfold zoetropelaw09_TimerFar.f
  rw [if_pos (by omega)]
  by_cases z : a0_0 = 0
  · have e1 := ticks_at 63 a0_0 a0_1 true a1 h0 h1
    have e2 : ticks a0_0 a0_1 true a1 = (a0_0, a0_1, true) := by unfold ticks; rw [if_pos (.inl z)]
    rw [e2] at e1
    rw [if_pos z, e1]
    simp [far_fixed]
  · have o1 : 1 ≤ one a0_1 ∧ one a0_1 ≤ 4294967295 := by unfold one; split <;> omega
    have hw : wrap64 (one a0_1) = one a0_1 := by unfold wrap64; omega
    have e1 := ticks_at 63 a0_0 (one a0_1) true (one a0_1) h0 (by omega)
    have e2 : ticks a0_0 (one a0_1) true (one a0_1) = (a0_0, a0_0, true) := by
      have hc : clampN (one a0_1) = one a0_1 := by unfold clampN; (repeat' split) <;> omega
      unfold ticks
      rw [hc, one_pos o1.1, if_neg (by omega), if_neg (by omega)]
      simp
    rw [e2] at e1
    have hp := far_prod k a0_0 (by omega) h0
    have hwe : wrap64 a0_0 = a0_0 := by unfold wrap64; omega
    have hwp : wrap64 (k * a0_0) = k * a0_0 := by unfold wrap64; omega
    have e3 := ticks_at 63 a0_0 a0_0 true (k * a0_0) h0 h0
    rw [far_round a0_0 k (by omega) (by omega)] at e3
    rw [if_neg z, mx_one, hw, e1]
    simp only [Option.bind_some, far_fixed, m1, hwe, hwp, e3]
    by_cases c : k = 0
    · simp [c]
    · have hq : 1 ≤ k * a0_0 := by
        have := Int.mul_le_mul_of_nonneg_right (show (1 : Int) ≤ k by omega) (show 0 ≤ a0_0 by omega)
        omega
      have hw1 : wrap64 (k * a0_0 - 1) = k * a0_0 - 1 := by unfold wrap64; omega
      have e4 := ticks_at 63 a0_0 a0_0 true (k * a0_0 - 1) h0 h0
      rw [hw1, e4]
      simp [c, far_last a0_0 k (by omega) (by omega)]
end Go.Proofs.Ytjdoabeaoeihhaa.Pure
