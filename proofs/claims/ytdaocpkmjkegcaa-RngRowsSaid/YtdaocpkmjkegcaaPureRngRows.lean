/- Two places that are the same but for multiples of the modulus go on the same. -/
import Derived.Test.YtdaocpkmjkegcaaXx14
import Derived.Test.YtdaocpkmjkegcaaLibRng
namespace Go.Proofs.Ytdaocpkmjkegcaa.Pure
open Go.RowKit Go.Proofs.Ytdaocpkmjkegcaa.X Go.Proofs.Ytdaocpkmjkegcaa.Ext Go.Proofs.YtdaocpkmjkegcaaW.PrintWords Go.Proofs.YtdaocpkmjkegcaaW.PrintLast
theorem rows_loop (x2 n : Int) (hb : bits .and .i64 x2 31 = n) (hn : 0 ≤ n ∧ n ≤ 31) (d : Nat) : ∀ (i : Int) (g h : Int × Int × Int × Int), leastG g = leastG h → 0 ≤ i → i ≤ n → n - i = d → ∀ k, d < k → zoetropelaw03_RngRows.l0 k x2 i g.1 g.2.1 g.2.2.1 g.2.2.2 h.1 h.2.1 h.2.2.1 h.2.2.2 = some true := by
  have ef : zoetropelaw03_fixed.f = some true := by decide +kernel
  induction d with
  | zero =>
    intro i g h hg h0 h1 hd k hk
    obtain ⟨k, rfl⟩ : ∃ q, k = q + 1 := ⟨k - 1, by omega⟩
    have e1 : rng_Skip.f g.1 g.2.1 g.2.2.1 g.2.2.2 0 = some (leastG g) := skip_of g 0
    have e2 : rng_Skip.f h.1 h.2.1 h.2.2.1 h.2.2.2 0 = some (leastG h) := skip_of h 0
    simp only [zoetropelaw03_RngRows.l0]
    rw [hb, if_neg (by omega), e1, e2, hg]
    simp [ef]
  | succ d ih =>
    intro i g h hg h0 h1 hd k hk
    obtain ⟨k, rfl⟩ : ∃ q, k = q + 1 := ⟨k - 1, by omega⟩
    have hw : wrap64 (i + 1) = i + 1 := by unfold wrap64; omega
    have hs : rngStep g = rngStep h := by rw [← step_least g, ← step_least h, hg]
    simp only [zoetropelaw03_RngRows.l0]
    rw [hb, if_pos (by omega), next_of, next_of, hs]
    simp only [Option.bind_some, if_true, hw]
    rw [if_neg (by simp)]
    exact ih (i + 1) (rngStep h) (rngStep h) rfl (by omega) (by omega) (by omega) k (by omega)
theorem RngRows (a0_0 : Int) (a0_1 : Int) (a0_2 : Int) (a0_3 : Int) (a1 : Int) (a2 : Int) (_w0_0 : (Lit.int .i64 a0_0).wf = true) (_w0_1 : (Lit.int .i64 a0_1).wf = true) (_w0_2 : (Lit.int .i64 a0_2).wf = true) (_w0_3 : (Lit.int .i64 a0_3).wf = true) (_w1 : (Lit.int .i64 a1).wf = true) (_w2 : (Lit.int .i64 a2).wf = true) : ∃ k, X.zoetropelaw03_RngRows.f k a0_0 a0_1 a0_2 a0_3 a1 a2 = some true := by
  refine ⟨40, ?_⟩
  have m0 := i64_mask a0_0 24 (by omega) 16777215 (by decide)
  have m1 := i64_mask a0_1 24 (by omega) 16777215 (by decide)
  have m2 := i64_mask a1 8 (by omega) 255 (by decide)
  have m3 := i64_mask (a1 / 256) 8 (by omega) 255 (by decide)
  have m4 := i64_mask a2 5 (by omega) 31 (by decide)
  obtain ⟨p, ep⟩ : ∃ p, p = a0_0 % 2 ^ 24 := ⟨_, rfl⟩
  obtain ⟨q, eq⟩ : ∃ q, q = a0_1 % 2 ^ 24 := ⟨_, rfl⟩
  obtain ⟨r, er⟩ : ∃ r, r = a1 % 2 ^ 8 := ⟨_, rfl⟩
  obtain ⟨s, es⟩ : ∃ s, s = a1 / 256 % 2 ^ 8 := ⟨_, rfl⟩
  have hp : 0 ≤ p ∧ p < 16777216 := by omega
  have hq : 0 ≤ q ∧ q < 16777216 := by omega
  have hr : 0 ≤ r ∧ r < 256 := by omega
  have hs : 0 ≤ s ∧ s < 256 := by omega
  have hn : 0 ≤ a2 % 2 ^ 5 ∧ a2 % 2 ^ 5 ≤ 31 := by omega
  rw [← ep] at m0
  rw [← eq] at m1
  rw [← er] at m2
  rw [← es] at m3
  have x1 : wrap64 (p + wrap64 (65521 * r)) = p + 65521 * r := by unfold wrap64; omega
  have x2 : wrap64 (q - wrap64 (65521 * s)) = q - 65521 * s := by unfold wrap64; omega
  unfold zoetropelaw03_RngRows.f
  rw [m0, m1, m2, m3, x1, x2]
  refine rows_loop a2 (a2 % 2 ^ 5) m4 hn (a2 % 2 ^ 5).toNat 0 (p, q, a0_2, a0_3) (p + 65521 * r, q - 65521 * s, a0_2, a0_3) ?_ (by omega) (by omega) (by omega) 40 (by omega)
  unfold leastG
  have y1 : (p + 65521 * r) % 65521 = p % 65521 := by omega
  have y2 : (q - 65521 * s) % 65521 = q % 65521 := by omega
  simp only [y1, y2]
end Go.Proofs.Ytdaocpkmjkegcaa.Pure
