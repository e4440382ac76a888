/- What some steps make of a timer is as the reference has it. -/
import Derived.Test.YtjdoabeaoeihhaaXx6
import Derived.Test.YtjdoabeaoeihhaaLibTimer
namespace Go.Proofs.Ytjdoabeaoeihhaa.Pure
open Go.RowKit Go.Proofs.Ytjdoabeaoeihhaa.X Go.Proofs.Ytjdoabeaoeihhaa.Ext Go.Proofs.YtjdoabeaoeihhaaW.PrintWords Go.Proofs.YtjdoabeaoeihhaaW.PrintLast
theorem tk_fixed : zoetropelaw09_fixed.f 64 = some true := by decide +kernel
theorem ref_tick (e l : Int) (r : Bool) (hl : 0 ≤ l ∧ l ≤ 4294967295) : zoetroperef09_Tick.f e l r = some (ticks e l r 1) := by
  unfold zoetroperef09_Tick.f ticks
  have hc : clampN 1 = 1 := by decide
  rw [hc]
  by_cases z : e = 0
  · rw [if_pos z, if_pos (.inl z)]
  · rw [if_neg z, if_neg (show ¬ (e = 0 ∨ (1 : Int) = 0) by omega)]
    by_cases c : l > 1
    · have : one l = l := one_pos (by omega)
      rw [this, if_pos c, if_pos (by omega), Int.emod_eq_of_lt (by omega) (by omega)]
    · have : one l = 1 := by unfold one; split <;> omega
      rw [this, if_neg c, if_neg (by omega)]
      simp
theorem tick_at (k : Nat) (e l : Int) (r : Bool) (he : 0 ≤ e ∧ e ≤ 4294967295) (hl : 0 ≤ l ∧ l ≤ 4294967295) : timer_Tick.f (k + 1) e l r = some (ticks e l r 1) := by
  unfold timer_Tick.f
  rw [ticks_at k e l r 1 he hl]; rfl
theorem tk_loop (m : Int) (hm : 0 ≤ m ∧ m ≤ 255) (e l : Int) (r : Bool) (he : 0 ≤ e ∧ e ≤ 4294967295) (hl : 0 ≤ l ∧ l ≤ 4294967295) (d : Nat) :
    ∀ i : Int, 0 ≤ i → i ≤ m → m - i = d → ∀ k, d + 66 ≤ k → zoetropelaw09_TimerTicks.l0 k m i e l r (ticks e l r i).1 (ticks e l r i).2.1 (ticks e l r i).2.2 (ticks e l r i).1 (ticks e l r i).2.1 (ticks e l r i).2.2 = some true := by
  induction d with
  | zero =>
    intro i h0 h1 hd k hk
    obtain ⟨k, rfl⟩ : ∃ q, k = q + 1 := ⟨k - 1, by omega⟩
    obtain rfl : i = m := by omega
    have ef : zoetropelaw09_fixed.f k = some true := at_rounds (g := fun k => zoetropelaw09_fixed.f k) zoetropelaw09_fixed.mono (show 64 ≤ k by omega) tk_fixed
    obtain ⟨k, rfl⟩ : ∃ q, k = q + 1 := ⟨k - 1, by omega⟩
    have e1 := ticks_at k e l r i he hl
    have e2 := ticks_at k e l r (wrap64 (-i)) he hl
    have hw : wrap64 (-i) = -i := by unfold wrap64; omega
    have e3 : ticks e l r (-i) = (e, l, r) := by
      have : clampN (-i) = 0 := by unfold clampN; rw [if_pos (by omega)]
      unfold ticks; rw [if_pos (.inr this)]
    rw [hw, e3] at e2
    simp only [zoetropelaw09_TimerTicks.l0]
    rw [if_neg (by omega), ef]
    simp only [Option.bind_some, e1, hw, e2]
    simp
  | succ d ih =>
    intro i h0 h1 hd k hk
    obtain ⟨k, rfl⟩ : ∃ q, k = q + 1 := ⟨k - 1, by omega⟩
    have rg := ticks_range e l r i he hl
    have hs := ticks_ticks e l r i 1 he.1 h0 (by omega) (by omega)
    obtain ⟨k', rfl⟩ : ∃ q, k = q + 1 := ⟨k - 1, by omega⟩
    have e1 := tick_at k' (ticks e l r i).1 (ticks e l r i).2.1 (ticks e l r i).2.2 (by rw [rg.1]; exact he) rg.2
    have e2 := ref_tick (ticks e l r i).1 (ticks e l r i).2.1 (ticks e l r i).2.2 rg.2
    rw [hs] at e1 e2
    have hw : wrap64 (i + 1) = i + 1 := by unfold wrap64; omega
    have hi := ih (i + 1) (by omega) (by omega) (by omega) (k' + 1) (by omega)
    rw [zoetropelaw09_TimerTicks.l0, if_pos (by omega), e1]
    simp only [Option.bind_some, e2, hw]
    rw [if_neg (by simp)]
    exact hi
theorem TimerTicks (a0_0 : Int) (a0_1 : Int) (a0_2 : Bool) (a1 : Int) (w0_0 : (Lit.int .u32 a0_0).wf = true) (w0_1 : (Lit.int .u32 a0_1).wf = true) (_w1 : (Lit.int .i64 a1).wf = true) : ∃ k, X.zoetropelaw09_TimerTicks.f k a0_0 a0_1 a0_2 a1 = some true := by
  refine ⟨400, ?_⟩
  have h0 := wf_u32 w0_0
  have h1 := wf_u32 w0_1
  have m1 := i64_mask a1 8 (by omega) 255 (by decide)
  have hk := mod_range a1 (2 ^ 8) (by decide)
  obtain ⟨m, em⟩ : ∃ m, m = a1 % 2 ^ 8 := ⟨_, rfl⟩
  rw [← em] at m1 hk
  have e0 : ticks a0_0 a0_1 a0_2 0 = (a0_0, a0_1, a0_2) := by unfold ticks; rw [if_pos (.inr (by rfl))]
  have := tk_loop m (by omega) a0_0 a0_1 a0_2 h0 h1 m.toNat 0 (by omega) (by omega) (by omega) 400 (by omega)
  rw [e0] at this
  unfold zoetropelaw09_TimerTicks.f
  rw [m1]; exact this
end Go.Proofs.Ytjdoabeaoeihhaa.Pure
