/- A timer that rings rings on till it is told. -/
import Derived.Test.YtjdoabeaoeihhaaXx11
import Derived.Test.YtjdoabeaoeihhaaLibTimer
import Derived.Laws.BitsAllLaws
namespace Go.Proofs.Ytjdoabeaoeihhaa.Pure
open Go.RowKit Go.Proofs.Ytjdoabeaoeihhaa.X Go.Proofs.Ytjdoabeaoeihhaa.Ext Go.Proofs.YtjdoabeaoeihhaaW.PrintWords Go.Proofs.YtjdoabeaoeihhaaW.PrintLast
theorem rg_fixed : zoetropelaw09_fixed.f 64 = some true := by decide +kernel
theorem rg_tick (k : Nat) (e l : Int) (he : 1 ≤ e ∧ e ≤ 64) (hl : 1 ≤ l ∧ l ≤ e) : timer_Tick.f (k + 1) e l false = some (if l = 1 then (e, e, true) else (e, l - 1, false)) := by
  unfold timer_Tick.f
  rw [ticks_at k e l false 1 (by omega) (by omega)]
  have hc : clampN 1 = 1 := by decide
  have ho : one l = l := one_pos hl.1
  unfold ticks
  rw [hc, ho, if_neg (by omega)]
  by_cases c : l = 1
  · rw [if_neg (by omega), if_pos c, c]; simp
  · rw [if_pos (by omega), if_neg c]; rfl
/-- After i steps: so many rings, so much is left. -/
theorem rg_loop (a1 : Int) (n c : Int) (hn : 0 ≤ n ∧ n ≤ 127) (hb : bits .and .i64 a1 127 = n) (hc : 1 ≤ c ∧ c ≤ 64) (d : Nat) :
    ∀ (i q l : Int), 0 ≤ i → i ≤ n → n - i = d → 1 ≤ l → l ≤ c → i = q * c + (c - l) → 0 ≤ q → ∀ k, d + 66 ≤ k → zoetropelaw09_TimerRings.l0 k a1 c q i c l false = some true := by
  induction d with
  | zero =>
    intro i q l h0 h1 hd hl1 hl2 hi hq k hk
    obtain ⟨k, rfl⟩ : ∃ z, k = z + 1 := ⟨k - 1, by omega⟩
    obtain rfl : i = n := by omega
    have ef : zoetropelaw09_fixed.f k = some true := at_rounds (g := fun k => zoetropelaw09_fixed.f k) zoetropelaw09_fixed.mono (show 64 ≤ k by omega) rg_fixed
    have hw : wrap64 c = c := by unfold wrap64; omega
    have hdiv : i / c = q := by
      have := Int.add_mul_ediv_right (c - l) q (show c ≠ 0 by omega)
      have hz : (c - l) / c = 0 := Int.ediv_eq_zero_of_lt (by omega) (by omega)
      rw [show c - l + q * c = i from by omega, hz] at this
      omega
    have hq2 : wrap64 (Int.tdiv i c) = q := by
      rw [Int.tdiv_eq_ediv_of_nonneg h0, hdiv]
      have : q ≤ i := by rw [← hdiv]; exact Int.ediv_le_self _ h0
      unfold wrap64; omega
    simp only [zoetropelaw09_TimerRings.l0]
    rw [hb, if_neg (by omega), hw, if_neg (by omega), hq2, if_pos rfl, ef]; rfl
  | succ d ih =>
    intro i q l h0 h1 hd hl1 hl2 hi hq k hk
    obtain ⟨k, rfl⟩ : ∃ z, k = z + 1 := ⟨k - 1, by omega⟩
    obtain ⟨k', rfl⟩ : ∃ z, k = z + 1 := ⟨k - 1, by omega⟩
    have hw : wrap64 (i + 1) = i + 1 := by unfold wrap64; omega
    have hqi : q ≤ i := by
      have := Int.mul_le_mul_of_nonneg_left hc.1 hq
      omega
    have hwq : wrap64 (q + 1) = q + 1 := by unfold wrap64; omega
    rw [zoetropelaw09_TimerRings.l0, hb, if_pos (by omega), rg_tick k' c l hc ⟨hl1, hl2⟩]
    by_cases z : l = 1
    · rw [if_pos z]
      have e4 : timer_Write.f c c true 8 5 = some (c, c, false, 0) := by unfold timer_Write.f; rw [if_neg (by decide), if_neg (by decide), if_pos rfl]
      simp only [Option.bind_some, if_true, e4, hw, hwq]
      exact ih (i + 1) (q + 1) c (by omega) (by omega) (by omega) (by omega) (by omega) (by rw [Int.add_mul]; omega) (by omega) (k' + 1) (by omega)
    · rw [if_neg z]
      simp only [Option.bind_some, hw]
      exact ih (i + 1) q (l - 1) (by omega) (by omega) (by omega) (by omega) (by omega) (by omega) hq (k' + 1) (by omega)
theorem TimerRings : zoetropelaw09_TimerRings.Pure := by
  intro a0 a1 w0 w1
  refine ⟨400, ?_⟩
  have h0 := wf_u32 w0
  have m1 := i64_mask a1 7 (by omega) 127 (by decide)
  have hk := mod_range a1 (2 ^ 7) (by decide)
  have m0 : bits .and .u32 a0 63 = a0 % 64 := by
    rw [u32_and a0 63 h0.1 (by omega) (by omega) (by omega)]
    have : a0.toNat &&& Int.toNat 63 = a0.toNat % 64 := Nat.and_two_pow_sub_one_eq_mod _ 6
    rw [this]; omega
  have hc : (1 + a0 % 64) % 4294967296 = 1 + a0 % 64 := by omega
  have e1 : timer_Write.f 0 0 false 0 (1 + a0 % 64) = some (1 + a0 % 64, 1 + a0 % 64, false, 0) := by unfold timer_Write.f; rw [if_pos rfl]
  unfold zoetropelaw09_TimerRings.f
  rw [m0, hc, e1]
  simp only [Option.bind_some, if_true]
  exact rg_loop a1 (a1 % 2 ^ 7) (1 + a0 % 64) (by omega) m1 (by omega) (a1 % 2 ^ 7).toNat 0 0 (1 + a0 % 64) (by omega) (by omega) (by omega) (by omega) (by omega) (by omega) (by omega) 400 (by omega)
end Go.Proofs.Ytjdoabeaoeihhaa.Pure
