/- Whole numbers below 2^53 as float64: sums, differences, products and the way back are exact. -/
import Derived.Laws.FloatArith
namespace Go.Proofs.Ytdaocpkmjkegcaa.Fl
open Ieee

theorem even_cut_zero (neg : Bool) (n : Nat) : Toward.even.cut neg n 0 = n := by
  simp [Toward.cut, Nat.mod_one]

theorem even_cut_exact (neg : Bool) (m d e : Nat) (hm : m ≠ 0) (hd : d ≤ e) : Toward.even.cut neg (m * 2 ^ e) d = m * 2 ^ (e - d) := by
  have hl : d ≤ (m * 2 ^ e).log2 := by
    rw [Nat.le_log2 (Nat.mul_ne_zero hm (Nat.ne_of_gt (Nat.two_pow_pos e)))]
    calc 2 ^ d ≤ 2 ^ e := Nat.pow_le_pow_right (by omega) hd
      _ ≤ m * 2 ^ e := Nat.le_mul_of_pos_left _ (by omega)
  have hmin : min d ((m * 2 ^ e).log2 + 2) = d := by omega
  have he : 2 ^ e = 2 ^ (e - d) * 2 ^ d := by rw [← Nat.pow_add]; congr 1; omega
  have hq : m * 2 ^ e / 2 ^ d = m * 2 ^ (e - d) := by
    rw [he, ← Nat.mul_assoc, Nat.mul_div_cancel _ (Nat.two_pow_pos d)]
  have hr : m * 2 ^ e % 2 ^ d = 0 := by
    rw [he, ← Nat.mul_assoc, Nat.mul_mod_left]
  unfold Toward.cut
  simp only [hmin, Nat.one_shiftLeft, hq, hr]
  simp

theorem zero_cut_exact (neg : Bool) (m d : Nat) (hm : m ≠ 0) : Toward.zero.cut neg (m * 2 ^ d) d = m := by
  have hl : d ≤ (m * 2 ^ d).log2 := by
    rw [Nat.le_log2 (Nat.mul_ne_zero hm (Nat.ne_of_gt (Nat.two_pow_pos d)))]
    exact Nat.le_mul_of_pos_left _ (by omega)
  have hmin : min d ((m * 2 ^ d).log2 + 2) = d := by omega
  unfold Toward.cut
  simp only [hmin, Nat.one_shiftLeft]
  rw [Nat.mul_div_cancel _ (Nat.two_pow_pos d)]
  simp

theorem log2_lt53 {m : Nat} (h : m < 2 ^ 53) : m.log2 ≤ 52 := by
  by_cases h0 : m = 0
  · subst h0; decide
  · have := (Nat.log2_lt h0).2 h; omega

theorem log2_shift (m e : Nat) (hm : m ≠ 0) : (m * 2 ^ e).log2 = m.log2 + e := by
  induction e with
  | zero => simp
  | succ e ih =>
    rw [Nat.pow_succ, ← Nat.mul_assoc, Nat.mul_comm _ 2, Nat.log2_two_mul (Nat.mul_ne_zero hm (Nat.ne_of_gt (Nat.two_pow_pos e))), ih]; omega

/-- The rung of a whole number. -/
def rungOf (m : Nat) : Nat := (m.log2 + 1022) * 2 ^ 52 + m * 2 ^ (52 - m.log2)

theorem kept_range {m : Nat} (hm : m ≠ 0) (h : m < 2 ^ 53) : 2 ^ 52 ≤ m * 2 ^ (52 - m.log2) ∧ m * 2 ^ (52 - m.log2) < 2 ^ 53 := by
  have hl := log2_lt53 h
  have h1 := Nat.log2_self_le hm
  have h2 := Nat.lt_log2_self (n := m)
  have e1 : 2 ^ m.log2 * 2 ^ (52 - m.log2) = 2 ^ 52 := by rw [← Nat.pow_add]; congr 1; omega
  have e2 : 2 ^ (m.log2 + 1) * 2 ^ (52 - m.log2) = 2 ^ 53 := by rw [← Nat.pow_add]; congr 1; omega
  have hp := Nat.two_pow_pos (52 - m.log2)
  constructor
  · rw [← e1]; exact Nat.mul_le_mul_right _ h1
  · rw [← e2]; exact Nat.mul_lt_mul_of_pos_right h2 hp

theorem least : Ieee.double.leastPlace = -1074 := by decide
theorem fracs : Ieee.double.fractionBits = 52 := rfl

theorem rung_lt {m : Nat} (hm : m ≠ 0) (h : m < 2 ^ 53) : rungOf m < 2046 * 2 ^ 52 := by
  have := kept_range hm h
  have := log2_lt53 h
  unfold rungOf; omega

/-- 'm * 2^e * 2^(-e)' and m are written alike. -/
theorem nearest_whole (neg : Bool) (m e : Nat) (hm : m ≠ 0) (h : m < 2 ^ 53) : Ieee.double.nearest neg (m * 2 ^ e) (-(e : Int)) = Ieee.double.word neg (rungOf m) := by
  have hl := log2_lt53 h
  have hr := rung_lt hm h
  have hne : m * 2 ^ e ≠ 0 := Nat.mul_ne_zero hm (Nat.ne_of_gt (Nat.two_pow_pos e))
  unfold Format.nearest
  rw [if_neg hne, log2_shift m e hm, least, fracs]
  have hlast : max (-(e : Int) + ((m.log2 + e : Nat) : Int) - ((52 : Nat) : Int)) (-1074) = (m.log2 : Int) - 52 := by omega
  simp only [hlast]
  have hk : Toward.even.cut neg ((m * 2 ^ e) <<< (-(e : Int) - ((m.log2 : Int) - 52)).toNat) ((m.log2 : Int) - 52 - -(e : Int)).toNat = m * 2 ^ (52 - m.log2) := by
    by_cases c : e ≤ 52 - m.log2
    · have e1 : (-(e : Int) - ((m.log2 : Int) - 52)).toNat = 52 - m.log2 - e := by omega
      have e2 : ((m.log2 : Int) - 52 - -(e : Int)).toNat = 0 := by omega
      rw [e1, e2, even_cut_zero, Nat.shiftLeft_eq, Nat.mul_assoc, ← Nat.pow_add]
      congr 2; omega
    · have e1 : (-(e : Int) - ((m.log2 : Int) - 52)).toNat = 0 := by omega
      have e2 : ((m.log2 : Int) - 52 - -(e : Int)).toNat = e - (52 - m.log2) := by omega
      rw [e1, e2, Nat.shiftLeft_zero, even_cut_exact neg m _ e hm (by omega)]
      congr 2; omega
  rw [hk]
  have hb : Ieee.double.binade = 2 ^ 52 := rfl
  have hi : Ieee.double.infRung = 2047 * 2 ^ 52 := by decide
  have hx : ((m.log2 : Int) - 52 - -1074).toNat = m.log2 + 1022 := by omega
  rw [hb, hi, hx]
  have hy : min ((m.log2 + 1022) * 2 ^ 52 + m * 2 ^ (52 - m.log2)) (2047 * 2 ^ 52) = rungOf m := by
    unfold rungOf at *; omega
  rw [hy]

theorem nearest_int (neg : Bool) (m : Nat) (hm : m ≠ 0) (h : m < 2 ^ 53) : Ieee.double.nearest neg m 0 = Ieee.double.word neg (rungOf m) := by
  have := nearest_whole neg m 0 hm h
  simpa using this

theorem signW : Ieee.double.signWeight = 2 ^ 63 := by decide

theorem read_word (neg : Bool) (m : Nat) (hm : m ≠ 0) (h : m < 2 ^ 53) : Ieee.double.read (Ieee.double.word neg (rungOf m)) = .number neg (m * 2 ^ (52 - m.log2)) ((m.log2 : Int) - 52) := by
  have hr := rung_lt hm h
  have hk := kept_range hm h
  have hl := log2_lt53 h
  have hw : Ieee.double.word neg (rungOf m) / 2 ^ 63 % 2 = (if neg then 1 else 0) ∧ Ieee.double.word neg (rungOf m) % 2 ^ 63 = rungOf m := by
    unfold Format.word
    rw [signW]
    cases neg
    · simp; omega
    · simp; omega
  have hb : Ieee.double.binade = 2 ^ 52 := rfl
  have hi : Ieee.double.infRung = 2047 * 2 ^ 52 := by decide
  unfold Format.read
  rw [signW, hb, hi, least]
  simp only [hw.1, hw.2]
  have g1 : ¬ rungOf m < 2 ^ 52 := by unfold rungOf; omega
  have g2 : rungOf m < 2047 * 2 ^ 52 := by omega
  rw [if_neg g1, if_pos g2]
  have a1 : rungOf m / 2 ^ 52 = m.log2 + 1023 := by unfold rungOf; omega
  have a2 : 2 ^ 52 + rungOf m % 2 ^ 52 = m * 2 ^ (52 - m.log2) := by unfold rungOf; omega
  rw [a1, a2]
  have a3 : ((-1074 : Int) + ((m.log2 + 1023 - 1 : Nat) : Int)) = (m.log2 : Int) - 52 := by omega
  rw [a3]
  cases neg <;> simp

/-- The float of a whole number. -/
def D (n : Int) : Nat := floatOfInt .f64 n

theorem D_def (n : Int) : D n = Ieee.double.nearest (n < 0) n.natAbs 0 := rfl
theorem D_zero : D 0 = 0 := by decide
theorem D_ne {n : Int} (h0 : n ≠ 0) (h : n.natAbs < 2 ^ 53) : D n = Ieee.double.word (n < 0) (rungOf n.natAbs) := by
  rw [D_def, nearest_int _ _ (by omega) h]

theorem read_zero : Ieee.double.read 0 = .number false 0 (-1074) := by decide

theorem zero_number (E : Nat) : Datum.number false 0 (-(E : Int)) = Datum.number (decide ((0 : Int) < 0)) (Int.natAbs 0 * 2 ^ E) (-(E : Int)) := by
  rw [show Int.natAbs 0 = 0 from rfl, Nat.zero_mul]; rfl
/-- What a float of a whole number reads as: its magnitude over a power of two. -/
theorem read_D (n : Int) (h : n.natAbs < 2 ^ 53) : ∃ e : Nat, e ≤ 1074 ∧ Ieee.double.read (D n) = .number (n < 0) (n.natAbs * 2 ^ e) (-(e : Int)) := by
  by_cases h0 : n = 0
  · subst h0
    obtain ⟨E, hE⟩ : ∃ E : Nat, E = 1074 := ⟨_, rfl⟩
    have hz : Ieee.double.read 0 = .number false 0 (-(E : Int)) := by rw [hE]; exact read_zero
    exact ⟨E, by omega, by rw [D_zero, hz]; exact zero_number E⟩
  · have hl := log2_lt53 h
    refine ⟨52 - n.natAbs.log2, by omega, ?_⟩
    rw [D_ne h0 h, read_word _ _ (by omega) h]
    congr 1; omega

theorem write_number (neg : Bool) (n : Int) (e : Nat) (h : n.natAbs < 2 ^ 53) (hs : neg = decide (n < 0)) : Ieee.double.write (.number neg (n.natAbs * 2 ^ e) (-(e : Int))) = D n := by
  subst hs
  by_cases h0 : n = 0
  · subst h0; show Ieee.double.nearest _ _ _ = _; rw [D_zero]; unfold Format.nearest; simp [Format.word]
  · show Ieee.double.nearest _ _ _ = _
    rw [nearest_whole _ _ _ (by omega) h, D_ne h0 h]

theorem signed_mul (neg : Bool) (m k : Nat) : signed neg m k = signed neg m 0 * 2 ^ k := by
  unfold signed
  cases neg <;> simp [Nat.shiftLeft_eq, Int.neg_mul]

theorem signed_natAbs (n : Int) : signed (decide (n < 0)) n.natAbs 0 = n := by
  unfold signed
  by_cases h : n < 0
  · simp [h]; omega
  · simp [h]; omega

theorem signed_e (n : Int) (e k : Nat) : signed (decide (n < 0)) (n.natAbs * 2 ^ e) k = n * 2 ^ (e + k) := by
  rw [signed_mul]
  have h1 : signed (decide (n < 0)) (n.natAbs * 2 ^ e) 0 = signed (decide (n < 0)) n.natAbs e := by
    unfold signed; simp [Nat.shiftLeft_eq]
  rw [h1, signed_mul, signed_natAbs, Int.mul_assoc, ← Int.pow_add]

theorem sum_D (a b : Int) (i j : Nat) (h0 : ¬ (a + b = 0 ∧ a < 0)) :
    ∃ e : Nat, (Datum.number (decide (a < 0)) (a.natAbs * 2 ^ i) (-(i : Int))).sum (.number (decide (b < 0)) (b.natAbs * 2 ^ j) (-(j : Int))) = some (.number (decide (a + b < 0)) ((a + b).natAbs * 2 ^ e) (-(e : Int))) := by
  refine ⟨max i j, ?_⟩
  unfold Datum.sum
  have hb : min (-(i : Int)) (-(j : Int)) = -((max i j : Nat) : Int) := by omega
  simp only [hb]
  have e1 : (-(i : Int) - -((max i j : Nat) : Int)).toNat = max i j - i := by omega
  have e2 : (-(j : Int) - -((max i j : Nat) : Int)).toNat = max i j - j := by omega
  have f1 : i + (max i j - i) = max i j := by omega
  have f2 : j + (max i j - j) = max i j := by omega
  rw [e1, e2, signed_e, signed_e, f1, f2, ← Int.add_mul]
  have hp : (0 : Int) < 2 ^ (max i j) := Int.pow_pos (by decide)
  have hz : ((a + b) * 2 ^ (max i j) = 0) ↔ a + b = 0 := by
    constructor
    · intro h; rcases Int.mul_eq_zero.1 h with h | h
      · exact h
      · omega
    · intro h; rw [h]; simp
  have hn : ((a + b) * 2 ^ (max i j) < 0) ↔ a + b < 0 := by
    constructor
    · intro h; exact Int.not_le.1 fun hc => absurd h (Int.not_lt.2 (Int.mul_nonneg hc (Int.le_of_lt hp)))
    · intro h; exact Int.mul_neg_of_neg_of_pos h hp
  have ha : ((a + b) * 2 ^ (max i j)).natAbs = (a + b).natAbs * 2 ^ (max i j) := by
    rw [Int.natAbs_mul, Int.natAbs_pow]; rfl
  rw [ha]
  by_cases c : a + b = 0
  · have : ¬ a < 0 := fun h => h0 ⟨c, h⟩
    simp [c, this]
  · simp [hz, c, hn]

theorem add_D (a b : Int) (ha : a.natAbs < 2 ^ 53) (hb : b.natAbs < 2 ^ 53) (hs : (a + b).natAbs < 2 ^ 53) : Ieee.double.add (D a) (D b) = some (D (a + b)) := by
  obtain ⟨i, _, hi⟩ := read_D a ha
  obtain ⟨j, _, hj⟩ := read_D b hb
  unfold Format.add
  rw [hi, hj]
  by_cases c : a + b = 0 ∧ a < 0
  · -- the other way round: the sum is the same
    have hb' : min (-(i : Int)) (-(j : Int)) = -((max i j : Nat) : Int) := by omega
    have e1 : (-(i : Int) - -((max i j : Nat) : Int)).toNat = max i j - i := by omega
    have e2 : (-(j : Int) - -((max i j : Nat) : Int)).toNat = max i j - j := by omega
    have f1 : i + (max i j - i) = max i j := by omega
    have f2 : j + (max i j - j) = max i j := by omega
    have hbn : ¬ b < 0 := by omega
    unfold Datum.sum
    simp only [hb']
    rw [e1, e2, signed_e, signed_e, f1, f2, ← Int.add_mul, c.1]
    simp [hbn]
    rw [D_zero]; show Ieee.double.nearest _ _ _ = _; unfold Format.nearest; simp [Format.word]
  · obtain ⟨e, he⟩ := sum_D a b i j c
    rw [he, Option.map_some, write_number _ _ _ hs rfl]

theorem sub_D (a b : Int) (ha : a.natAbs < 2 ^ 53) (hb : b.natAbs < 2 ^ 53) (ha0 : 0 ≤ a) (hb0 : 0 ≤ b) : Ieee.double.sub (D a) (D b) = some (D (a - b)) := by
  obtain ⟨i, _, hi⟩ := read_D a ha
  obtain ⟨j, _, hj⟩ := read_D b hb
  have hb' : min (-(i : Int)) (-(j : Int)) = -((max i j : Nat) : Int) := by omega
  have e1 : (-(i : Int) - -((max i j : Nat) : Int)).toNat = max i j - i := by omega
  have e2 : (-(j : Int) - -((max i j : Nat) : Int)).toNat = max i j - j := by omega
  have f1 : i + (max i j - i) = max i j := by omega
  have f2 : j + (max i j - j) = max i j := by omega
  have hpos : (0 : Int) < 2 ^ (max i j) := Int.pow_pos (by decide)
  have hsig : signed true (b.natAbs * 2 ^ j) (max i j - j) = -(b * 2 ^ (max i j)) := by
    rw [signed_mul]
    have h1 : signed true (b.natAbs * 2 ^ j) 0 = -(b * 2 ^ j) := by
      unfold signed; simp only [if_true, Nat.shiftLeft_zero, Int.natCast_mul, Int.natCast_pow]; rw [show ((b.natAbs : Nat) : Int) = b from by omega]; rfl
    rw [h1, Int.neg_mul, Int.mul_assoc, ← Int.pow_add, f2]
  have hbs : decide (b < 0) = false := by simp; omega
  have has : decide (a < 0) = false := by simp; omega
  have hsa : signed false (a.natAbs * 2 ^ i) (max i j - i) = a * 2 ^ (max i j) := by
    rw [← has, signed_e, f1]
  unfold Format.sub
  rw [hi, hj]
  unfold Datum.opposite Datum.sum
  simp only [hb', e1, e2, hbs, Bool.not_false, hsig, has, hsa, Bool.false_and]
  rw [show a * 2 ^ (max i j) + -(b * 2 ^ (max i j)) = (a - b) * 2 ^ (max i j) from by rw [Int.sub_mul]; rfl]
  have ha' : ((a - b) * 2 ^ (max i j)).natAbs = (a - b).natAbs * 2 ^ (max i j) := by
    rw [Int.natAbs_mul, Int.natAbs_pow]; rfl
  have hz : ((a - b) * 2 ^ (max i j) = 0) ↔ a - b = 0 := by
    constructor
    · intro h; rcases Int.mul_eq_zero.1 h with h | h
      · exact h
      · omega
    · intro h; rw [h]; simp
  have hn : ((a - b) * 2 ^ (max i j) < 0) ↔ a - b < 0 := by
    constructor
    · intro h; exact Int.not_le.1 fun hc => absurd h (Int.not_lt.2 (Int.mul_nonneg hc (Int.le_of_lt hpos)))
    · intro h; exact Int.mul_neg_of_neg_of_pos h hpos
  rw [ha']
  have hsign : (if (a - b) * 2 ^ (max i j) = 0 then false else decide ((a - b) * 2 ^ (max i j) < 0)) = decide (a - b < 0) := by
    by_cases c : a - b = 0
    · simp [c]
    · simp [hz, c, hn]
  rw [hsign, Option.map_some, write_number _ (a - b) _ (by omega) rfl]

theorem mul_D (a b : Int) (ha : a.natAbs < 2 ^ 53) (hb : b.natAbs < 2 ^ 53) (ha0 : 0 ≤ a) (hb0 : 0 ≤ b) (hs : (a * b).natAbs < 2 ^ 53) : Ieee.double.mul (D a) (D b) = some (D (a * b)) := by
  obtain ⟨i, _, hi⟩ := read_D a ha
  obtain ⟨j, _, hj⟩ := read_D b hb
  have hbs : decide (b < 0) = false := by simp; omega
  have has : decide (a < 0) = false := by simp; omega
  have habs : decide (a * b < 0) = false := by simp; exact Int.mul_nonneg ha0 hb0
  unfold Format.mul
  rw [hi, hj]
  unfold Datum.product
  simp only [hbs, has]
  have h1 : a.natAbs * 2 ^ i * (b.natAbs * 2 ^ j) = (a * b).natAbs * 2 ^ (i + j) := by
    rw [Int.natAbs_mul, Nat.pow_add]; ac_rfl
  have h2 : -(i : Int) + -(j : Int) = -((i + j : Nat) : Int) := by omega
  rw [h1, h2, Option.map_some, write_number _ (a * b) _ hs (by rw [habs]; rfl)]

theorem toInt_D (n : Int) (h : n.natAbs < 2 ^ 53) : (Ieee.double.read (D n)).toInt .zero = some n := by
  obtain ⟨e, he, hr⟩ := read_D n h
  rw [hr]
  unfold Datum.toInt Datum.integral
  have e1 : (-(e : Int)).toNat = 0 := by omega
  have e2 : (-(-(e : Int))).toNat = e := by omega
  simp only [e1, e2, Nat.shiftLeft_zero]
  by_cases h0 : n = 0
  · subst h0; simp [Toward.cut, signed]
  · rw [zero_cut_exact _ _ _ (by omega), signed_natAbs]

end Go.Proofs.Ytdaocpkmjkegcaa.Fl
