/- What steps make of a timer, as plain arithmetic. -/
import Derived.Test.YtjdoabeaoeihhaaXx2
import Derived.Laws.Bits128
namespace Go.Proofs.Ytjdoabeaoeihhaa.Pure
open Go.RowKit Go.Proofs.Ytjdoabeaoeihhaa.X Go.Proofs.YtjdoabeaoeihhaaW.PrintWords Go.Proofs.YtjdoabeaoeihhaaW.PrintLast

theorem wf_u32 {a : Int} (h : (Lit.int .u32 a).wf = true) : 0 ≤ a ∧ a ≤ 4294967295 := by
  simp [Lit.wf, IntKind.min, IntKind.max, IntKind.signed, IntKind.bits] at h
  omega
theorem wf_i64 {a : Int} (h : (Lit.int .i64 a).wf = true) : -9223372036854775808 ≤ a ∧ a ≤ 9223372036854775807 := by
  simp [Lit.wf, IntKind.min, IntKind.max, IntKind.signed, IntKind.bits] at h
  omega
theorem i64_mask (n : Int) (m : Nat) (hm : m ≤ 62) (c : Int) (hc : c = 2 ^ m - 1) : bits .and .i64 n c = n % 2 ^ m := by
  subst hc
  have hp : (2 : Nat) ^ m ≤ 2 ^ 62 := Nat.pow_le_pow_right (by omega) hm
  have hp0 : 0 < (2 : Nat) ^ m := Nat.two_pow_pos m
  have hcast : ((2 : Int) ^ m) = ((2 ^ m : Nat) : Int) := by simp
  have hmm : (BitVec.ofInt 64 ((2 : Int) ^ m - 1)).toNat = 2 ^ m - 1 := by
    rw [hcast, BitVec.toNat_ofInt]
    have : (((2 ^ m : Nat) : Int) - 1) = ((2 ^ m - 1 : Nat) : Int) := by omega
    rw [this]
    have h2 : (2 ^ m - 1 : Nat) < 2 ^ 64 := by omega
    omega
  have key : (BitVec.ofInt 64 n &&& BitVec.ofInt 64 ((2 : Int) ^ m - 1)).toNat = (n % ((2 ^ 64 : Nat) : Int)).toNat % 2 ^ m := by
    rw [BitVec.toNat_and, BitVec.toNat_ofInt, hmm, Nat.and_two_pow_sub_one_eq_mod]
  show IntKind.i64.wrap ((BitVec.ofInt 64 n &&& BitVec.ofInt 64 ((2 : Int) ^ m - 1)).toNat : Nat) = n % 2 ^ m
  rw [key, IntKind.wrap_i64, hcast]
  have hlt : (n % ((2 ^ 64 : Nat) : Int)).toNat % 2 ^ m < 2 ^ m := Nat.mod_lt _ hp0
  have hd : ((2 ^ m : Nat) : Int) ∣ ((2 ^ 64 : Nat) : Int) := Int.natCast_dvd_natCast.2 (Nat.pow_dvd_pow 2 (by omega))
  have e1 : (((n % ((2 ^ 64 : Nat) : Int)).toNat % 2 ^ m : Nat) : Int) = n % ((2 ^ m : Nat) : Int) := by
    have h0 : 0 ≤ n % ((2 ^ 64 : Nat) : Int) := Int.emod_nonneg _ (by decide)
    rw [Int.natCast_emod, Int.toNat_of_nonneg h0]
    exact Int.emod_emod_of_dvd n hd
  rw [← e1]
  omega

/-- So many steps as are made at once. -/
def clampN (n : Int) : Int := if n ≤ 0 then 0 else if n ≤ 1099511627776 then n else 1099511627776
def one (l : Int) : Int := if l < 1 then 1 else l
def ticks (e l : Int) (r : Bool) (n : Int) : Int × Int × Bool :=
  if e = 0 ∨ clampN n = 0 then (e, l, r)
  else if clampN n < one l then (e, one l - clampN n, r)
  else (e, e - (clampN n - one l) % e, true)
theorem one_pos {x : Int} (h : 1 ≤ x) : one x = x := by unfold one; rw [if_neg (by omega)]
theorem mx_clamp (n : Int) : mx 0 (mn n 1099511627776) = clampN n := by
  unfold mx mn clampN; (repeat' split) <;> omega
theorem mx_one (l : Int) : mx 1 l = one l := by
  unfold mx one; (repeat' split) <;> omega
theorem mod_range (x e : Int) (he : 0 < e) : 0 ≤ x % e ∧ x % e < e := ⟨Int.emod_nonneg _ (by omega), Int.emod_lt_of_pos _ he⟩
theorem ticks_at (k : Nat) (e l : Int) (r : Bool) (n : Int) (he : 0 ≤ e ∧ e ≤ 4294967295) (hl : 0 ≤ l ∧ l ≤ 4294967295) : timer_Ticks.f (k + 1) e l r n = some (ticks e l r n) := by
  unfold timer_Ticks.f ticks
  have w1 : wrap64 l = l := by unfold wrap64; omega
  have w2 : wrap64 e = e := by unfold wrap64; omega
  have hN : 0 ≤ clampN n ∧ clampN n ≤ 1099511627776 := by unfold clampN; (repeat' split) <;> omega
  have h1 : 1 ≤ one l ∧ one l ≤ 4294967296 := by unfold one; split <;> omega
  simp only [timer_Ticks.j0, mx_clamp, w1, w2, mx_one]
  by_cases c : e = 0
  · rw [if_pos c, if_pos trivial, if_pos (.inl c)]
  · rw [if_neg c]
    by_cases d : clampN n = 0
    · rw [if_pos (by simpa using d), if_pos (.inr d)]
    · rw [if_neg (by simpa using d), if_neg (show ¬ (e = 0 ∨ clampN n = 0) by omega)]
      by_cases f : clampN n < one l
      · rw [if_pos f, if_pos f]
        have : wrap64 (one l - clampN n) % 4294967296 = one l - clampN n := by unfold wrap64; omega
        rw [this]
      · rw [if_neg f, if_neg f, if_neg c]
        have hm := mod_range (clampN n - one l) e (by omega)
        have h2 : wrap64 (clampN n - one l) = clampN n - one l := by unfold wrap64; omega
        rw [h2, Int.tmod_eq_emod_of_nonneg (by omega)]
        have h3 : (clampN n - one l) % e % 4294967296 = (clampN n - one l) % e := Int.emod_eq_of_lt hm.1 (by omega)
        rw [h3, Int.emod_eq_of_lt (by omega) (by omega)]
theorem ticks_range (e l : Int) (r : Bool) (n : Int) (he : 0 ≤ e ∧ e ≤ 4294967295) (hl : 0 ≤ l ∧ l ≤ 4294967295) : (ticks e l r n).1 = e ∧ 0 ≤ (ticks e l r n).2.1 ∧ (ticks e l r n).2.1 ≤ 4294967295 := by
  have hN : 0 ≤ clampN n ∧ clampN n ≤ 1099511627776 := by unfold clampN; (repeat' split) <;> omega
  have h1 : 1 ≤ one l ∧ (one l ≤ l ∨ one l = 1) := by unfold one; split <;> omega
  unfold ticks
  split
  · exact ⟨rfl, hl.1, hl.2⟩
  · split
    · exact ⟨rfl, by dsimp; omega, by dsimp; omega⟩
    · have hm := mod_range (clampN n - one l) e (by omega)
      exact ⟨rfl, by dsimp; omega, by dsimp; omega⟩
theorem add_mod (x m e : Int) (he : 0 < e) : (x + m) % e = if x % e + m % e < e then x % e + m % e else x % e + m % e - e := by
  have hx := mod_range x e he
  have hm := mod_range m e he
  rw [Int.add_emod]
  split
  · rw [Int.emod_eq_of_lt (by omega) (by omega)]
  · have := Int.add_mul_emod_self_left (x % e + m % e - e) e 1
    rw [show x % e + m % e - e + e * 1 = x % e + m % e from by omega] at this
    rw [this, Int.emod_eq_of_lt (by omega) (by omega)]
/-- Steps in two goes are steps at once. -/
theorem ticks_ticks (e l : Int) (r : Bool) (n m : Int) (he : 0 ≤ e) (hn : 0 ≤ n) (hm : 0 ≤ m) (hs : n + m ≤ 1099511627776) :
    ticks (ticks e l r n).1 (ticks e l r n).2.1 (ticks e l r n).2.2 m = ticks e l r (n + m) := by
  have cn : clampN n = n := by unfold clampN; (repeat' split) <;> omega
  have cm : clampN m = m := by unfold clampN; (repeat' split) <;> omega
  have cs : clampN (n + m) = n + m := by unfold clampN; (repeat' split) <;> omega
  have h1 : 1 ≤ one l := by unfold one; split <;> omega
  by_cases c : e = 0
  · simp [ticks, c]
  by_cases d : n = 0
  · subst d
    have : ticks e l r 0 = (e, l, r) := by unfold ticks; rw [if_pos (.inr (by rfl))]
    rw [this]; simp
  by_cases d2 : m = 0
  · subst d2
    have e0 : clampN 0 = 0 := rfl
    unfold ticks
    simp only [e0, or_true, if_true, Int.add_zero]
  unfold ticks
  simp only [cn, cm, cs, c, d, d2, false_or, if_false, show ¬ (n + m = 0) from by omega]
  by_cases f : n < one l
  · simp only [f, if_true, c, d2, false_or, if_false]
    have o : one (one l - n) = one l - n := one_pos (by omega)
    rw [o]
    by_cases g : m < one l - n
    · rw [if_pos g, if_pos (by omega)]; congr 2; omega
    · rw [if_neg g, if_neg (by omega), show m - (one l - n) = n + m - one l from by omega]
  · simp only [f, if_false, c, d2, false_or]
    have hr := mod_range (n - one l) e (by omega)
    have o : one (e - (n - one l) % e) = e - (n - one l) % e := one_pos (by omega)
    rw [o, if_neg (show ¬ n + m < one l by omega)]
    have hsum : n + m - one l = (n - one l) + m := by omega
    by_cases g : m < e - (n - one l) % e
    · rw [if_pos g, hsum, add_mod _ _ _ (by omega), Int.emod_eq_of_lt hm (by omega), if_pos (by omega)]
      congr 2; omega
    · rw [if_neg g]
      have h2 : (m - (e - (n - one l) % e)) % e = (n - one l + m) % e := by
        have := Int.add_mul_emod_self_left (m - (e - (n - one l) % e)) e (1 + (n - one l) / e)
        have hd := Int.emod_add_mul_ediv (n - one l) e
        rw [← this]; congr 1
        rw [Int.mul_add]; omega
      rw [h2, hsum]
end Go.Proofs.Ytjdoabeaoeihhaa.Pure
