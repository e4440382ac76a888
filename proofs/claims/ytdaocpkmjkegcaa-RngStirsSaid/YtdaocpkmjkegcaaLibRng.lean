/- Rows of words: what goes on the same. -/
import Derived.Test.YtdaocpkmjkegcaaExtTwins03s
import Derived.Laws.Bits128
namespace Go.Proofs.Ytdaocpkmjkegcaa.Pure
open Go.RowKit Go.Proofs.Ytdaocpkmjkegcaa.X Go.Proofs.Ytdaocpkmjkegcaa.Ext Go.Proofs.YtdaocpkmjkegcaaW.PrintWords Go.Proofs.YtdaocpkmjkegcaaW.PrintLast

theorem wf_u32 {a : Int} (h : (Lit.int .u32 a).wf = true) : 0 ≤ a ∧ a ≤ 4294967295 := by
  simp [Lit.wf, IntKind.min, IntKind.max, IntKind.signed, IntKind.bits] at h
  omega
theorem wf_i64 {a : Int} (h : (Lit.int .i64 a).wf = true) : -9223372036854775808 ≤ a ∧ a ≤ 9223372036854775807 := by
  simp [Lit.wf, IntKind.min, IntKind.max, IntKind.signed, IntKind.bits] at h
  omega
theorem i64_mask (n : Int) (m : Nat) (hm : m ≤ 62) (c : Int) (hc : c = 2 ^ m - 1) : bits .and .i64 n c = n % 2 ^ m := by
  subst hc
  have hp : (2 : Nat) ^ m ≤ 2 ^ 62 := Nat.pow_le_pow_right (by omega) hm
  have hp0 : 0 < (2 : Nat) ^ m := Nat.two_pow_pos m
  have hcast : ((2 : Int) ^ m) = ((2 ^ m : Nat) : Int) := by simp
  have hmm : (BitVec.ofInt 64 ((2 : Int) ^ m - 1)).toNat = 2 ^ m - 1 := by
    rw [hcast, BitVec.toNat_ofInt]
    have : (((2 ^ m : Nat) : Int) - 1) = ((2 ^ m - 1 : Nat) : Int) := by omega
    rw [this]
    have h2 : (2 ^ m - 1 : Nat) < 2 ^ 64 := by omega
    omega
  have key : (BitVec.ofInt 64 n &&& BitVec.ofInt 64 ((2 : Int) ^ m - 1)).toNat = (n % ((2 ^ 64 : Nat) : Int)).toNat % 2 ^ m := by
    rw [BitVec.toNat_and, BitVec.toNat_ofInt, hmm, Nat.and_two_pow_sub_one_eq_mod]
  show IntKind.i64.wrap ((BitVec.ofInt 64 n &&& BitVec.ofInt 64 ((2 : Int) ^ m - 1)).toNat : Nat) = n % 2 ^ m
  rw [key, IntKind.wrap_i64, hcast]
  have hlt : (n % ((2 ^ 64 : Nat) : Int)).toNat % 2 ^ m < 2 ^ m := Nat.mod_lt _ hp0
  have hd : ((2 ^ m : Nat) : Int) ∣ ((2 ^ 64 : Nat) : Int) := Int.natCast_dvd_natCast.2 (Nat.pow_dvd_pow 2 (by omega))
  have e1 : (((n % ((2 ^ 64 : Nat) : Int)).toNat % 2 ^ m : Nat) : Int) = n % ((2 ^ m : Nat) : Int) := by
    have h0 : 0 ≤ n % ((2 ^ 64 : Nat) : Int) := Int.emod_nonneg _ (by decide)
    rw [Int.natCast_emod, Int.toNat_of_nonneg h0]
    exact Int.emod_emod_of_dvd n hd
  rw [← e1]
  omega
theorem least_least (g : Int × Int × Int × Int) : leastG (leastG g) = leastG g := by
  unfold leastG; simp only [Int.emod_emod]
theorem step_least (g : Int × Int × Int × Int) : rngStep (leastG g) = rngStep g := by
  unfold rngStep leastG; simp only [Int.emod_emod]
theorem least_step (g : Int × Int × Int × Int) : leastG (rngStep g) = rngStep g := by
  unfold rngStep leastG nextRe nextIm; simp only [Int.emod_emod]
theorem least_iter (k : Nat) (g : Int × Int × Int × Int) : leastG (iterG k g) = iterG k g := by
  cases k with
  | zero => exact least_least g
  | succ k => exact least_step _
/-- In two goes, or at once. -/
theorem iter_add (n m : Nat) (g : Int × Int × Int × Int) : iterG m (iterG n g) = iterG (n + m) g := by
  induction m with
  | zero => exact least_iter n g
  | succ m ih => show rngStep (iterG m (iterG n g)) = rngStep (iterG (n + m) g); rw [ih]
theorem many_small (n : Int) (h0 : 0 ≤ n) (h1 : n ≤ 1000) : manyG n = n.toNat := by
  unfold manyG; (repeat' split) <;> omega
theorem next_of (g : Int × Int × Int × Int) : rng_Next.f g.1 g.2.1 g.2.2.1 g.2.2.2 = some ((rngStep g).1 + 65536 * (rngStep g).2.1, rngStep g) := rfl
theorem skip_of (g : Int × Int × Int × Int) (n : Int) : rng_Skip.f g.1 g.2.1 g.2.2.1 g.2.2.2 n = some (iterG (manyG n) g) := rfl
end Go.Proofs.Ytdaocpkmjkegcaa.Pure
