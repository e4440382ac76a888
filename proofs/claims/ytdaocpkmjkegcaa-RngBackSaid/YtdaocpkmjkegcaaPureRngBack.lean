/- A row that is skipped in two goes stands where it stands when skipped at once. -/
import Derived.Test.YtdaocpkmjkegcaaXx13
import Derived.Test.YtdaocpkmjkegcaaLibRng
namespace Go.Proofs.Ytdaocpkmjkegcaa.Pure
open Go.RowKit Go.Proofs.Ytdaocpkmjkegcaa.X Go.Proofs.Ytdaocpkmjkegcaa.Ext Go.Proofs.YtdaocpkmjkegcaaW.PrintWords Go.Proofs.YtdaocpkmjkegcaaW.PrintLast
theorem in_mod (n : Int) : zoetropelaw03_inside.f (n % 65521) = some true := by
  unfold zoetropelaw03_inside.f
  rw [if_pos (by omega)]; congr 1; simp; omega
theorem RngBack (a0_0 : Int) (a0_1 : Int) (a0_2 : Int) (a0_3 : Int) (a1 : Int) (a2 : Int) (w0_0 : (Lit.int .i64 a0_0).wf = true) (w0_1 : (Lit.int .i64 a0_1).wf = true) (w0_2 : (Lit.int .i64 a0_2).wf = true) (w0_3 : (Lit.int .i64 a0_3).wf = true) (w1 : (Lit.int .i64 a1).wf = true) (w2 : (Lit.int .i64 a2).wf = true) : X.zoetropelaw03_RngBack.f a0_0 a0_1 a0_2 a0_3 a1 a2 = some true := by
  have h0 := wf_i64 w0_0
  have h1 := wf_i64 w0_1
  have h2 := wf_i64 w0_2
  have h3 := wf_i64 w0_3
  have h4 := wf_i64 w1
  have h5 := wf_i64 w2
  have ef : zoetropelaw03_fixed.f = some true := by decide +kernel
  have m1 := i64_mask a1 9 (by omega) 511 (by decide)
  have m2 := i64_mask a2 8 (by omega) 255 (by decide)
  obtain ⟨n, en⟩ : ∃ n, n = a1 % 2 ^ 9 := ⟨_, rfl⟩
  obtain ⟨m, em⟩ : ∃ m, m = a2 % 2 ^ 8 := ⟨_, rfl⟩
  have hn : 0 ≤ n ∧ n ≤ 511 := by omega
  have hm : 0 ≤ m ∧ m ≤ 255 := by omega
  rw [← en] at m1
  rw [← em] at m2
  have hw : wrap64 (n + m) = n + m := by unfold wrap64; omega
  have e1 : rng_Skip.f a0_0 a0_1 a0_2 a0_3 (n + m) = some (iterG (n.toNat + m.toNat) (a0_0, a0_1, a0_2, a0_3)) := by
    have := skip_of (a0_0, a0_1, a0_2, a0_3) (n + m)
    rw [many_small _ (by omega) (by omega), show (n + m).toNat = n.toNat + m.toNat from by omega] at this
    exact this
  have e2 : rng_Skip.f a0_0 a0_1 a0_2 a0_3 n = some (iterG n.toNat (a0_0, a0_1, a0_2, a0_3)) := by
    have := skip_of (a0_0, a0_1, a0_2, a0_3) n
    rw [many_small _ (by omega) (by omega)] at this
    exact this
  have e3 := skip_of (iterG n.toNat (a0_0, a0_1, a0_2, a0_3)) m
  rw [many_small _ (by omega) (by omega), iter_add] at e3
  have hl := least_iter (n.toNat + m.toNat) (a0_0, a0_1, a0_2, a0_3)
  have e4 := next_of (iterG (n.toNat + m.toNat) (a0_0, a0_1, a0_2, a0_3))
  unfold zoetropelaw03_RngBack.f
  rw [if_pos (by omega), m1, m2, hw, e1]
  simp only [Option.bind_some, e2, e3, e4, ef]
  generalize iterG (n.toNat + m.toNat) (a0_0, a0_1, a0_2, a0_3) = g at *
  have i0 : zoetropelaw03_inside.f g.1 = some true := by rw [← hl]; exact in_mod _
  have i1 : zoetropelaw03_inside.f g.2.1 = some true := by rw [← hl]; exact in_mod _
  have i2 : zoetropelaw03_inside.f g.2.2.1 = some true := by rw [← hl]; exact in_mod _
  have i3 : zoetropelaw03_inside.f g.2.2.2 = some true := by rw [← hl]; exact in_mod _
  simp [i0, i1, i2, i3]
end Go.Proofs.Ytdaocpkmjkegcaa.Pure
