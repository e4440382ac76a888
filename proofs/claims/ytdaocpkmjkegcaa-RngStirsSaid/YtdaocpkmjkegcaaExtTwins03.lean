/- The reference's rows of words are the program's: beginnings, steps, stirs. -/
import Derived.Test.YtdaocpkmjkegcaaXx2
import Derived.Test.YtdaocpkmjkegcaaXx3
import Derived.Test.YtdaocpkmjkegcaaExtRefStir
namespace Go.Proofs.Ytdaocpkmjkegcaa.Ext
open Go.RowKit Go.Proofs.YtdaocpkmjkegcaaW.PrintWords Go.Proofs.Ytdaocpkmjkegcaa.X

theorem w64 {n : Int} (h0 : -9223372036854775808 ≤ n) (h1 : n < 9223372036854775808) : wrap64 n = n := by unfold wrap64; omega
theorem ref_next (a b c d : Int) : zoetroperef03_Next.f a b c d = rng_Next.f a b c d := by
  unfold zoetroperef03_Next.f rng_Next.f
  simp only [ref_least, Option.bind_some]
  have ra := below_mod a
  have rb := below_mod b
  have rc := below_mod c
  have rd_ := below_mod d
  generalize a % 65521 = x at *
  generalize b % 65521 = y at *
  have hc : c % 65521 % 65521 = c % 65521 := by omega
  have hd : d % 65521 % 65521 = d % 65521 := by omega
  generalize c % 65521 = z at *
  generalize d % 65521 = t at *
  have pxx := prod_le x x ra ra
  have pyy := prod_le y y rb rb
  have pxy := prod_le x y ra rb
  have e1 : wrap64 (wrap64 (wrap64 (x * x) - wrap64 (y * y)) + z) = x * x - y * y + z := by
    rw [w64 (n := x * x) (by omega) (by omega), w64 (n := y * y) (by omega) (by omega), w64 (n := x * x - y * y) (by omega) (by omega), w64 (by omega) (by omega)]
  have p2 : 2 * x * y = 2 * (x * y) := Int.mul_assoc 2 x y
  have e2 : wrap64 (wrap64 (wrap64 (2 * x) * y) + t) = 2 * x * y + t := by
    rw [w64 (n := 2 * x) (by omega) (by omega), w64 (n := 2 * x * y) (by omega) (by omega), w64 (by omega) (by omega)]
  rw [e1, e2, hc, hd]
  have r1 := below_mod (x * x - y * y + z)
  have r2 := below_mod (2 * x * y + t)
  unfold nextRe nextIm
  generalize (x * x - y * y + z) % 65521 = p at *
  generalize (2 * x * y + t) % 65521 = q at *
  have e3 : Int.tmod (wrap64 (p + wrap64 (65536 * q))) 4294967296 % 4294967296 = p + 65536 * q := by
    rw [w64 (n := 65536 * q) (by omega) (by omega), w64 (by omega) (by omega), Int.tmod_eq_emod_of_nonneg (by omega)]; omega
  rw [e3]
theorem ref_seed (n : Int) (h : 0 ≤ n ∧ n ≤ 4294967295) : zoetroperef03_Seed.f n = rng_Seed.f n := by
  unfold zoetroperef03_Seed.f rng_Seed.f
  rw [if_pos h]
  simp only [ref_least, Option.bind_some]
  have e0 : wrap64 n = n := w64 (by omega) (by omega)
  have e1 : Int.tmod n 65536 = n % 65536 := Int.tmod_eq_emod_of_nonneg h.1
  have e2 : Int.tdiv n 65536 = n / 65536 := Int.tdiv_eq_ediv_of_nonneg h.1
  rw [e0, e1, e2, w64 (n := n / 65536) (by omega) (by omega)]
  rfl
theorem twin_zoetroperef03_Next.same {a b c d : Int} {x y : Int × Int × Int × Int × Int} (h : rng_Next.f a b c d = some x) (h' : zoetroperef03_Next.f a b c d = some y) : x = y := by
  rw [ref_next, h] at h'; exact Option.some.inj h'
theorem twin_zoetroperef03_Stir.same {a b c d n : Int} {x y : Int × Int × Int × Int} (h : rng_Stir.f a b c d n = some x) (h' : zoetroperef03_Stir.f a b c d n = some y) : x = y := by
  unfold zoetroperef03_Stir.f at h'; rw [h] at h'; exact Option.some.inj h'
theorem twin_zoetroperef03_Seed.same {n : Int} {x y : Int × Int × Int × Int} (h : rng_Seed.f n = some x) (h' : zoetroperef03_Seed.f n = some y) : x = y := by
  by_cases g : 0 ≤ n ∧ n ≤ 4294967295
  · rw [ref_seed _ g, h] at h'; exact Option.some.inj h'
  · unfold rng_Seed.f at h; rw [if_neg g] at h; cases h
end Go.Proofs.Ytdaocpkmjkegcaa.Ext
