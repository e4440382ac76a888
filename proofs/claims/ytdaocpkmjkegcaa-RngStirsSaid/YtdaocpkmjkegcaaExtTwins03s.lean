/- Where a row stands so many words later: the reference's loop tells the same. -/
import Derived.Test.YtdaocpkmjkegcaaXx10
import Derived.Test.YtdaocpkmjkegcaaExtTwins03
namespace Go.Proofs.Ytdaocpkmjkegcaa.Ext
open Go.RowKit Go.Proofs.YtdaocpkmjkegcaaW.PrintWords Go.Proofs.Ytdaocpkmjkegcaa.X

theorem rounds_same {α : Type} {g : Nat → Option α} (hm : ∀ k, LeO (g k) (g (k + 1))) {K k : Nat} {a b : α} (h : g K = some a) (h' : g k = some b) : a = b :=
  Option.some.inj ((at_rounds hm (Nat.le_max_left K k) h).symm.trans (at_rounds hm (Nat.le_max_right K k) h'))
theorem next_step (g : Int × Int × Int × Int) : ∃ v, rng_Next.f g.1 g.2.1 g.2.2.1 g.2.2.2 = some (v, rngStep g) := ⟨_, rfl⟩
theorem skip_loop (n : Int) (g : Int × Int × Int × Int) (d : Nat) : ∀ i : Nat, i + d = manyG n → ∀ k, d < k → zoetroperef03_Skip.l0 k n i (iterG i g).1 (iterG i g).2.1 (iterG i g).2.2.1 (iterG i g).2.2.2 = some (iterG (manyG n) g) := by
  have hm : (manyG n : Int) ≤ 1000 ∧ (n ≤ (manyG n : Int) ∨ manyG n = 1000) ∧ ((manyG n : Int) ≤ n ∨ manyG n = 0) := by
    unfold manyG; (repeat' split) <;> omega
  induction d with
  | zero =>
    intro i hi k hk
    obtain ⟨k, rfl⟩ : ∃ q, k = q + 1 := ⟨k - 1, by omega⟩
    simp only [zoetroperef03_Skip.l0]
    have e : i = manyG n := by omega
    by_cases c : (i : Int) < n
    · rw [if_pos c, if_neg (by omega), ← e]
    · rw [if_neg c, ← e]
  | succ d ih =>
    intro i hi k hk
    obtain ⟨k, rfl⟩ : ∃ q, k = q + 1 := ⟨k - 1, by omega⟩
    simp only [zoetroperef03_Skip.l0]
    obtain ⟨v, hv⟩ := next_step (iterG i g)
    rw [if_pos (by omega), if_pos (by omega), ref_next, hv]
    simp only [Option.bind_some]
    have hw : wrap64 ((i : Int) + 1) = ((i + 1 : Nat) : Int) := by rw [w64 (by omega) (by omega)]; omega
    rw [hw]
    exact ih (i + 1) (by omega) k (by omega)
theorem ref_skip (a b c d n : Int) : zoetroperef03_Skip.f (manyG n + 1) a b c d n = some (iterG (manyG n) (a, b, c, d)) := by
  unfold zoetroperef03_Skip.f
  simp only [ref_least, Option.bind_some]
  exact skip_loop n (a, b, c, d) (manyG n) 0 (by omega) (manyG n + 1) (by omega)
theorem twin_zoetroperef03_Skip.same {k : Nat} {a b c d n : Int} {x y : Int × Int × Int × Int} (h : rng_Skip.f a b c d n = some x) (h' : zoetroperef03_Skip.f k a b c d n = some y) : x = y := by
  have h1 := rounds_same (g := fun k => zoetroperef03_Skip.f k a b c d n) (zoetroperef03_Skip.mono a b c d n) (ref_skip a b c d n) h'
  rw [← h1]; exact (Option.some.inj h).symm
end Go.Proofs.Ytdaocpkmjkegcaa.Ext
