/- The rows of words: what the calls that reckon with complex numbers answer, in whole numbers. -/
import Derived.Test.YtdaocpkmjkegcaaProg
import Derived.Test.YtdaocpkmjkegcaaWWords
import Derived.Test.YtdaocpkmjkegcaaLibFl
import Derived.WalkKit
import Derived.Below
import Derived.RegionTactic
import Derived.Outline
import Derived.Lib.Hide
import Derived.Laws.BitsAllLaws
import Derived.Laws.ResultCell
import Derived.Laws.Cover2
import Derived.Laws.Cover3
import Derived.Laws.ComplexArith
import Derived.Deep.QuietTactic
import Derived.Deep.RegionWith
import Derived.BigQuiet
import Derived.StillTailTactics
namespace Go.Proofs.Ytdaocpkmjkegcaa.Ext
open Go.RowKit Go.Proofs.YtdaocpkmjkegcaaW.PrintWords Go.Proofs.Ytdaocpkmjkegcaa.Fl

abbrev F (n : Int) : Nat := floatOfInt .f64 n

theorem tmod_bounds (n : Int) : -65521 < Int.tmod n 65521 ∧ Int.tmod n 65521 < 65521 := by
  constructor
  · have := Int.lt_tmod_of_pos n (show (0 : Int) < 65521 by decide); omega
  · exact Int.tmod_lt_of_pos n (by decide)
theorem emod_of_tmod (n : Int) : n % 65521 = if Int.tmod n 65521 < 0 then Int.tmod n 65521 + 65521 else Int.tmod n 65521 := by
  have h1 := Int.tmod_add_mul_tdiv n 65521
  have h2 := Int.emod_nonneg n (show (65521 : Int) ≠ 0 by decide)
  have h3 := tmod_bounds n
  split <;> omega
set_option maxHeartbeats 400000 in
theorem below_any (n : Int) (w : World) : Calls Try.prog 23 #[.int .i64 n] w fun e w' => e = .returned (.int .i64 (n % 65521)) ∧ w = w' := by
  have ht := tmod_bounds n
  have HE := Lib.hid (emod_of_tmod n)
  by_cases c : Int.tmod n 65521 < 0
  · have hw : 0 ≤ Int.tmod n 65521 + 65521 := by omega
    go_enter Try.func23, Try.ntmps23
    go_wp2
    go_ret
    exact ⟨by rw [HE.out, if_pos c]; simp, rfl⟩
  · go_enter Try.func23, Try.ntmps23
    go_wp2
    go_ret
    exact ⟨by rw [HE.out, if_neg (Int.not_lt.2 c)]; rfl, rfl⟩
theorem pair_any (a b : Int) (w : World) : Calls Try.prog 22 #[.int .i64 a, .int .i64 b] w fun e w' => e = .returned (.complex .f64 (F (a % 65521)) (F (b % 65521))) ∧ w = w' := by
  go_enter Try.func22, Try.ntmps22
  go_wp2_with (go_at_call 23; refine (below_any _ _).mono ?_; rintro e w' ⟨rfl, rfl⟩)
  go_ret
  exact ⟨rfl, rfl⟩
theorem u32_half (n : Int) (h : 0 ≤ n ∧ n ≤ 4294967295) : bits .and .u32 n 65535 = n % 65536 := by
  rw [u32_and n 65535 h.1 (by omega) (by omega) (by omega)]
  have : n.toNat &&& Int.toNat 65535 = n.toNat % 65536 := Nat.and_two_pow_sub_one_eq_mod _ 16
  rw [this]; omega
theorem parts_any (n : Int) (w : World) (h : 0 ≤ n ∧ n ≤ 4294967295) : Calls Try.prog 20 #[.int .u32 n] w fun e w' => e = .returned (.complex .f64 (F (n % 65536)) (F (n / 65536))) ∧ w = w' := by
  have hb := Lib.hid (u32_half n h)
  have h0 := h.1
  have h1 := h.2
  go_enter Try.func20, Try.ntmps20
  go_wp2
  go_ret
  exact ⟨by rw [← hb.out]; rfl, rfl⟩
/-- A float that reads as a whole number. -/
theorem to_int (x : Int) (h : x.natAbs < 2 ^ 53) : floatToIntVal .f64 (F x) .i64 = some x := by
  have := toInt_D x h
  unfold floatToIntVal
  show (match (Ieee.double.read (D x)).toInt .zero with | some n => if IntKind.min .i64 ≤ n ∧ n ≤ IntKind.max .i64 then some n else none | none => none) = some x
  rw [this]
  have hm : IntKind.min .i64 ≤ x ∧ x ≤ IntKind.max .i64 := by
    simp [IntKind.min, IntKind.max, IntKind.signed, IntKind.bits]; omega
  rw [show (match some x with | some n => if IntKind.min .i64 ≤ n ∧ n ≤ IntKind.max .i64 then some n else none | none => none) = if IntKind.min .i64 ≤ x ∧ x ≤ IntKind.max .i64 then some x else none from rfl, if_pos hm]
theorem place_any (x y z t : Int) (w : World) (hx : x.natAbs < 2 ^ 53) (hy : y.natAbs < 2 ^ 53) (hz : z.natAbs < 2 ^ 53) (ht : t.natAbs < 2 ^ 53) :
    Calls Try.prog 19 #[.complex .f64 (F x) (F y), .complex .f64 (F z) (F t)] w fun e w' => e = .returned (.agg #[.int .i64 (x % 65521), .int .i64 (y % 65521), .int .i64 (z % 65521), .int .i64 (t % 65521)]) ∧ Below w.heap.size w w' := by
  have c1 := fun W => run_convert_float_int (P := Try.prog) W 43 3 .f64 .i64 (F x) x (by kernel_rfl) (by kernel_rfl) (to_int x hx)
  have c2 := fun W => run_convert_float_int (P := Try.prog) W 43 3 .f64 .i64 (F y) y (by kernel_rfl) (by kernel_rfl) (to_int y hy)
  have c3 := fun W => run_convert_float_int (P := Try.prog) W 43 3 .f64 .i64 (F z) z (by kernel_rfl) (by kernel_rfl) (to_int z hz)
  have c4 := fun W => run_convert_float_int (P := Try.prog) W 43 3 .f64 .i64 (F t) t (by kernel_rfl) (by kernel_rfl) (to_int t ht)
  go_enter Try.func19, Try.ntmps19
  go_wp2_with (go_at_call 23; refine (below_any _ _).mono ?_; rintro e w' ⟨rfl, rfl⟩)
  exact bodyPost_ret (v := .agg #[.int .i64 (x % 65521), .int .i64 (y % 65521), .int .i64 (z % 65521), .int .i64 (t % 65521)]) (by simp [results, Try.results19, go_sem]) rfl ⟨rfl, by (repeat (first | exact Below.refl _ _ | refine Below.drew ?_ | refine pw_below_drewN ?_ _ | refine Below.setCell ?_ (by simp) _ | refine Below.alloc ?_ (by simp) _ | refine Below.alloc ?_ (by omega) _ | refine Below.alloc ?_ (by simp; omega) _))⟩

theorem bcell {W w1 : World} (hb : Below W.heap.size W w1) : (∀ b o, b < W.heap.size → w1.cell? ⟨b, o, none⟩ = W.cell? ⟨b, o, none⟩) ∧ (∀ b o, b < W.heap.size → w1.frozen? ⟨b, o, none⟩ = W.frozen? ⟨b, o, none⟩) :=
  ⟨fun b o h => hb.cell (p := ⟨b, o, none⟩) h, fun b o h => hb.frozen (p := ⟨b, o, none⟩) h⟩
theorem below_call {w W w1 : World} (h : Below w.heap.size w W) (hb : Below W.heap.size W w1) : Below w.heap.size w w1 := h.trans (hb.mono h.size)

/-- Seed. -/
def rng_Seed.f (n : Int) : Option (Int × Int × Int × Int) := if 0 ≤ n ∧ n ≤ 4294967295 then some (n % 65536 % 65521, n / 65536 % 65521, 12345, 6789) else none
theorem seed_re : F 12345 = 4668012349850910720 := by decide +kernel
theorem seed_im : F 6789 = 4664186599142064128 := by decide +kernel
theorem place_seed (x y : Int) (w : World) (hx : x.natAbs < 2 ^ 53) (hy : y.natAbs < 2 ^ 53) :
    Calls Try.prog 19 #[.complex .f64 (F x) (F y), .complex .f64 4668012349850910720 4664186599142064128] w fun e w' => e = .returned (.agg #[.int .i64 (x % 65521), .int .i64 (y % 65521), .int .i64 12345, .int .i64 6789]) ∧ Below w.heap.size w w' := by
  have := place_any x y 12345 6789 w hx hy (by decide) (by decide)
  rw [seed_re, seed_im] at this
  exact this
theorem rng_Seed.calls (a0 : Int) (r1 r2 r3 r4 : Int) (w : World) (h : rng_Seed.f a0 = some (r1, r2, r3, r4)) :
    Calls Try.prog 9 #[.int .u32 a0] w fun e w' => e = .returned (.agg #[.int .i64 r1, .int .i64 r2, .int .i64 r3, .int .i64 r4]) ∧ Below w.heap.size w w' := by
  unfold rng_Seed.f at h
  by_cases c : 0 ≤ a0 ∧ a0 ≤ 4294967295
  · rw [if_pos c] at h
    simp only [Option.some.injEq, Prod.mk.injEq] at h; obtain ⟨rfl, rfl, rfl, rfl⟩ := h
    have HB0 := Lib.hid (Below.refl w.heap.size w)
    go_enter Try.func9, Try.ntmps9
    go_wp2_with fail
    refine (parts_any _ _ c).mono ?_
    rintro e w' ⟨rfl, rfl⟩
    go_wp2_with fail
    refine (place_seed _ _ _ (by omega) (by omega)).mono ?_
    rintro e w1 ⟨rfl, hb⟩
    obtain ⟨hc, hf⟩ := bcell hb
    have hz := hb.size
    simp only [World.size_alloc] at hz
    have HB := Lib.hid hb; clear hb
    go_wp2
    exact bodyPost_ret (v := .agg #[.int .i64 (a0 % 65536 % 65521), .int .i64 (a0 / 65536 % 65521), .int .i64 12345, .int .i64 6789]) (by simp [results, Try.results9, go_sem, hc]) rfl ⟨rfl, by
      repeat (refine Below.setCell ?_ (by simp) _)
      exact below_call ((Below.refl _ _).alloc (Nat.le_refl _) _) HB.out⟩
  · rw [if_neg c] at h; cases h

theorem mul_run (a b : Int) (ha : 0 ≤ a ∧ a < 2 ^ 40) (hb : 0 ≤ b ∧ b < 2 ^ 40) (hs : a * b < 2 ^ 53) (t : TypeId) (W : World) : (binOp .mul t (.float .f64 (F a)) (.float .f64 (F b))).run Try.prog W = .ok (.float .f64 (F (a * b))) W := by
  have h0 : 0 ≤ a * b := Int.mul_nonneg ha.1 hb.1
  exact run_float_arith W .mul t .f64 _ _ _ (mul_D a b (by omega) (by omega) ha.1 hb.1 (by omega))
theorem sub_run (a b : Int) (ha : 0 ≤ a ∧ a < 2 ^ 52) (hb : 0 ≤ b ∧ b < 2 ^ 52) (t : TypeId) (W : World) : (binOp .sub t (.float .f64 (F a)) (.float .f64 (F b))).run Try.prog W = .ok (.float .f64 (F (a - b))) W :=
  run_float_arith W .sub t .f64 _ _ _ (sub_D a b (by omega) (by omega) ha.1 hb.1)
theorem csum_run (a b c d : Int) (ha : a.natAbs < 2 ^ 50) (hb : b.natAbs < 2 ^ 50) (hc : c.natAbs < 2 ^ 50) (hd : d.natAbs < 2 ^ 50) (t : TypeId) (W : World) :
    (binOp .add t (.complex .f64 (F a) (F b)) (.complex .f64 (F c) (F d))).run Try.prog W = .ok (.complex .f64 (F (a + c)) (F (b + d))) W := by
  refine run_complex_sum W .add (.inl rfl) t .f64 _ _ _ _ _ _ ?_
  unfold cSumBits
  have h1 : floatBits .add .f64 (F a) (F c) = some (F (a + c)) := add_D a c (by omega) (by omega) (by omega)
  have h2 : floatBits .add .f64 (F b) (F d) = some (F (b + d)) := add_D b d (by omega) (by omega) (by omega)
  rw [h1, h2]; rfl
theorem two_bits : F 2 = 4611686018427387904 := by decide +kernel
theorem dbl_run (a : Int) (ha : 0 ≤ a ∧ a < 2 ^ 40) (t : TypeId) (W : World) : (binOp .mul t (.float .f64 4611686018427387904) (.float .f64 (F a))).run Try.prog W = .ok (.float .f64 (F (2 * a))) W := by
  rw [← two_bits]
  exact mul_run 2 a (by omega) ha (by omega) t W

/-- A step of a row whose parts are below the modulus. -/
def nextRe (a b c : Int) : Int := (a * a - b * b + c) % 65521
def nextIm (a b d : Int) : Int := (2 * a * b + d) % 65521
def rng_Next.f (a b c d : Int) : Option (Int × Int × Int × Int × Int) :=
  some (nextRe (a % 65521) (b % 65521) (c % 65521) + 65536 * nextIm (a % 65521) (b % 65521) (d % 65521), nextRe (a % 65521) (b % 65521) (c % 65521), nextIm (a % 65521) (b % 65521) (d % 65521), c % 65521, d % 65521)
theorem below_mod (n : Int) : 0 ≤ n % 65521 ∧ n % 65521 ≤ 65520 := by omega
theorem prod_le (a b : Int) (ha : 0 ≤ a ∧ a ≤ 65520) (hb : 0 ≤ b ∧ b ≤ 65520) : 0 ≤ a * b ∧ a * b ≤ 4292870400 := by
  refine ⟨Int.mul_nonneg ha.1 hb.1, ?_⟩
  calc a * b ≤ 65520 * b := Int.mul_le_mul_of_nonneg_right ha.2 hb.1
    _ ≤ 4292870400 := by omega

set_option maxHeartbeats 1000000 in
theorem next_any (re im cr ci a b c d x y : Int) (w : World) (ex : Hid (x = nextRe a b c)) (ey : Hid (y = nextIm a b d)) (ea : Hid (a = re % 65521)) (eb : Hid (b = im % 65521)) (ec : Hid (c = cr % 65521)) (ed : Hid (d = ci % 65521)) :
    Calls Try.prog 11 #[.agg #[.int .i64 re, .int .i64 im, .int .i64 cr, .int .i64 ci]] w fun e w' => e = .returned (.tuple #[.int .u32 (x + 65536 * y), .agg #[.int .i64 x, .int .i64 y, .int .i64 c, .int .i64 d]]) ∧ Below w.heap.size w w' := by
  have ra : 0 ≤ a ∧ a ≤ 65520 := by rw [ea.out]; exact below_mod _
  have rb : 0 ≤ b ∧ b ≤ 65520 := by rw [eb.out]; exact below_mod _
  have rc : 0 ≤ c ∧ c ≤ 65520 := by rw [ec.out]; exact below_mod _
  have rd_ : 0 ≤ d ∧ d ≤ 65520 := by rw [ed.out]; exact below_mod _
  have paa := prod_le a a ra ra
  have pbb := prod_le b b rb rb
  have pab := prod_le a b ra rb
  have p2ab : 2 * a * b = 2 * (a * b) := by rw [Int.mul_assoc]
  have m1 := mul_run a a (by omega) (by omega) (by omega)
  have m2 := mul_run b b (by omega) (by omega) (by omega)
  have m3 := sub_run (a * a) (b * b) (by omega) (by omega)
  have m4 := dbl_run a (by omega)
  have m5 := mul_run (2 * a) b (by omega) (by omega) (by rw [p2ab]; omega)
  have m6 := csum_run (a * a - b * b) (2 * a * b) c d (by omega) (by rw [p2ab]; omega) (by omega) (by omega)
  have hpair1 : ∀ W, Calls Try.prog 22 #[.int .i64 re, .int .i64 im] W fun e w' => e = .returned (.complex .f64 (F a) (F b)) ∧ w' = W := by
    intro W; rw [ea.out, eb.out]; exact (pair_any re im W).mono fun _ _ h => ⟨h.1, h.2.symm⟩
  have hpair2 : ∀ W, Calls Try.prog 22 #[.int .i64 cr, .int .i64 ci] W fun e w' => e = .returned (.complex .f64 (F c) (F d)) ∧ w' = W := by
    intro W; rw [ec.out, ed.out]; exact (pair_any cr ci W).mono fun _ _ h => ⟨h.1, h.2.symm⟩
  have hc0 : c % 65521 = c := by omega
  have hd0 : d % 65521 = d := by omega
  have hplace : ∀ W, Calls Try.prog 19 #[.complex .f64 (F (a * a - b * b + c)) (F (2 * a * b + d)), .complex .f64 (F c) (F d)] W fun e w' => e = .returned (.agg #[.int .i64 x, .int .i64 y, .int .i64 c, .int .i64 d]) ∧ Below W.heap.size W w' := by
    intro W
    rw [ex.out, ey.out]
    have := place_any (a * a - b * b + c) (2 * a * b + d) c d W (by omega) (by rw [p2ab]; omega) (by omega) (by omega)
    rw [hc0, hd0] at this
    exact this
  have HP1 := Lib.hid hpair1; clear hpair1
  have HP2 := Lib.hid hpair2; clear hpair2
  have HPl := Lib.hid hplace; clear hplace
  clear hc0 hd0 p2ab paa pbb pab
  have r1 : 0 ≤ x ∧ x ≤ 65520 := by rw [ex.out]; exact below_mod _
  have r2 : 0 ≤ y ∧ y ≤ 65520 := by rw [ey.out]; exact below_mod _
  go_enter Try.func11, Try.ntmps11
  go_wp2
  go_quiet (first | ((go_at_call 22; with_reducible exact Calls.quiet_of_same (HP1.out _))) | ((go_at_call 22; with_reducible exact Calls.quiet_of_same (HP2.out _))))
  go_wp2_with fail
  refine (HPl.out _).mono ?_
  rintro e w1 ⟨rfl, hb⟩
  obtain ⟨hc, hf⟩ := bcell hb
  have hz := hb.size
  try simp at hz
  have HB := Lib.hid hb; clear hb
  go_wp2
  have hlt : w.heap.size + 1 < w1.heap.size := by omega
  have q0 : w1.cell? ⟨w.heap.size + 1, 0, none⟩ = some (.int .i64 0) := by rw [hc _ _ (by simp)]; go_simp
  have p0 : w1.frozen? ⟨w.heap.size + 1, 0, none⟩ = false := by rw [hf _ _ (by simp)]; go_simp
  have q1 : w1.cell? ⟨w.heap.size + 1, 1, none⟩ = some (.int .i64 0) := by rw [hc _ _ (by simp)]; go_simp
  have p1 : w1.frozen? ⟨w.heap.size + 1, 1, none⟩ = false := by rw [hf _ _ (by simp)]; go_simp
  have q2 : w1.cell? ⟨w.heap.size + 1, 2, none⟩ = some (.int .i64 0) := by rw [hc _ _ (by simp)]; go_simp
  have p2 : w1.frozen? ⟨w.heap.size + 1, 2, none⟩ = false := by rw [hf _ _ (by simp)]; go_simp
  have q3 : w1.cell? ⟨w.heap.size + 1, 3, none⟩ = some (.int .i64 0) := by rw [hc _ _ (by simp)]; go_simp
  have p3 : w1.frozen? ⟨w.heap.size + 1, 3, none⟩ = false := by rw [hf _ _ (by simp)]; go_simp
  clear hc hf
  go_region
  all_goals
    go_wp2
    exact bodyPost_ret (v := .tuple #[.int .u32 (x + 65536 * y), .agg #[.int .i64 x, .int .i64 y, .int .i64 c, .int .i64 d]]) (by simp [results, Try.results11, go_sem, q0, q1, q2, q3, hlt, Int.mul_comm]) rfl ⟨rfl, by
      repeat (first | refine Below.drew ?_ | refine Below.setCell ?_ (by simp) _ | refine Below.alloc ?_ (by simp; omega) _)
      exact below_call (by (repeat (first | exact Below.refl _ _ | refine Below.drew ?_ | refine pw_below_drewN ?_ _ | refine Below.setCell ?_ (by simp) _ | refine Below.alloc ?_ (by simp) _ | refine Below.alloc ?_ (by omega) _ | refine Below.alloc ?_ (by simp; omega) _))) HB.out⟩
theorem rng_Next.calls (a0_0 a0_1 a0_2 a0_3 : Int) (r1 r2 r3 r4 r5 : Int) (w : World) (h : rng_Next.f a0_0 a0_1 a0_2 a0_3 = some (r1, r2, r3, r4, r5)) :
    Calls Try.prog 11 #[.agg #[.int .i64 a0_0, .int .i64 a0_1, .int .i64 a0_2, .int .i64 a0_3]] w fun e w' => e = .returned (.tuple #[.int .u32 r1, .agg #[.int .i64 r2, .int .i64 r3, .int .i64 r4, .int .i64 r5]]) ∧ Below w.heap.size w w' := by
  unfold rng_Next.f at h
  simp only [Option.some.injEq, Prod.mk.injEq] at h; obtain ⟨rfl, rfl, rfl, rfl, rfl⟩ := h
  exact next_any a0_0 a0_1 a0_2 a0_3 _ _ _ _ _ _ w (Lib.hid rfl) (Lib.hid rfl) (Lib.hid rfl) (Lib.hid rfl) (Lib.hid rfl) (Lib.hid rfl)

def rng_Stir.f (a b c d n : Int) : Option (Int × Int × Int × Int) :=
  if 0 ≤ n ∧ n ≤ 4294967295 then some ((a % 65521 + n % 65536) % 65521, (b % 65521 + n / 65536) % 65521, c % 65521, d % 65521) else none
set_option maxHeartbeats 2000000 in
theorem stir_any (re im cr ci n a b c d x y : Int) (w : World) (hn : 0 ≤ n ∧ n ≤ 4294967295) (ex : Hid (x = (a + n % 65536) % 65521)) (ey : Hid (y = (b + n / 65536) % 65521)) (ea : Hid (a = re % 65521)) (eb : Hid (b = im % 65521)) (ec : Hid (c = cr % 65521)) (ed : Hid (d = ci % 65521)) :
    Calls Try.prog 14 #[.agg #[.int .i64 re, .int .i64 im, .int .i64 cr, .int .i64 ci], .int .u32 n] w fun e w' => e = .returned (.agg #[.int .i64 x, .int .i64 y, .int .i64 c, .int .i64 d]) ∧ Below w.heap.size w w' := by
  have ra : 0 ≤ a ∧ a ≤ 65520 := by rw [ea.out]; exact below_mod _
  have rb : 0 ≤ b ∧ b ≤ 65520 := by rw [eb.out]; exact below_mod _
  have rc : 0 ≤ c ∧ c ≤ 65520 := by rw [ec.out]; exact below_mod _
  have rd_ : 0 ≤ d ∧ d ≤ 65520 := by rw [ed.out]; exact below_mod _
  have m6 := csum_run a b (n % 65536) (n / 65536) (by omega) (by omega) (by omega) (by omega)
  have hpair1 : ∀ W, Calls Try.prog 22 #[.int .i64 re, .int .i64 im] W fun e w' => e = .returned (.complex .f64 (F a) (F b)) ∧ w' = W := by
    intro W; rw [ea.out, eb.out]; exact (pair_any re im W).mono fun _ _ h => ⟨h.1, h.2.symm⟩
  have hpair2 : ∀ W, Calls Try.prog 22 #[.int .i64 cr, .int .i64 ci] W fun e w' => e = .returned (.complex .f64 (F c) (F d)) ∧ w' = W := by
    intro W; rw [ec.out, ed.out]; exact (pair_any cr ci W).mono fun _ _ h => ⟨h.1, h.2.symm⟩
  have hc0 : c % 65521 = c := by omega
  have hd0 : d % 65521 = d := by omega
  have hplace : ∀ W, Calls Try.prog 19 #[.complex .f64 (F (a + n % 65536)) (F (b + n / 65536)), .complex .f64 (F c) (F d)] W fun e w' => e = .returned (.agg #[.int .i64 x, .int .i64 y, .int .i64 c, .int .i64 d]) ∧ Below W.heap.size W w' := by
    intro W
    rw [ex.out, ey.out]
    have := place_any (a + n % 65536) (b + n / 65536) c d W (by omega) (by omega) (by omega) (by omega)
    rw [hc0, hd0] at this
    exact this
  have HP1 := Lib.hid hpair1; clear hpair1
  have HP2 := Lib.hid hpair2; clear hpair2
  have HPl := Lib.hid hplace; clear hplace
  have HPa : Hid (∀ W, Calls Try.prog 20 #[.int .u32 n] W fun e w' => e = .returned (.complex .f64 (F (n % 65536)) (F (n / 65536))) ∧ w' = W) := Lib.hid (fun W => (parts_any n W hn).mono fun _ _ h => ⟨h.1, h.2.symm⟩)
  clear hc0 hd0
  have r1 : 0 ≤ x ∧ x ≤ 65520 := by rw [ex.out]; exact below_mod _
  have r2 : 0 ≤ y ∧ y ≤ 65520 := by rw [ey.out]; exact below_mod _
  go_enter Try.func14, Try.ntmps14
  go_wp2
  refine wp_region_still_tail 13 (by kernel_rfl) (by kernel_rfl) ?_
  change wpStill _ _ (World.drew _) _ _ _
  simp only [List.take_succ_cons, List.take_zero, List.drop_succ_cons, List.drop_zero]
  iterate 4 still_step
  still_call (HP1.out _)
  still_step
  still_call (HPa.out _)
  iterate 5 still_step
  still_call (HP2.out _)
  refine wpStill_nil ?_
  change wpList _ _ _ _ _ (World.drew _)
  go_wp2_with fail
  refine (HPl.out _).mono ?_
  rintro e w1 ⟨rfl, hb⟩
  obtain ⟨hc, hf⟩ := bcell hb
  have hz := hb.size
  try simp at hz
  have HB := Lib.hid hb; clear hb
  have hlt : w.heap.size + 1 < w1.heap.size := by omega
  have q0 : w1.cell? ⟨w.heap.size + 1, 0, none⟩ = some (.int .i64 0) := by rw [hc _ _ (by simp)]; go_simp
  have p0 : w1.frozen? ⟨w.heap.size + 1, 0, none⟩ = false := by rw [hf _ _ (by simp)]; go_simp
  have q1 : w1.cell? ⟨w.heap.size + 1, 1, none⟩ = some (.int .i64 0) := by rw [hc _ _ (by simp)]; go_simp
  have p1 : w1.frozen? ⟨w.heap.size + 1, 1, none⟩ = false := by rw [hf _ _ (by simp)]; go_simp
  have q2 : w1.cell? ⟨w.heap.size + 1, 2, none⟩ = some (.int .i64 0) := by rw [hc _ _ (by simp)]; go_simp
  have p2 : w1.frozen? ⟨w.heap.size + 1, 2, none⟩ = false := by rw [hf _ _ (by simp)]; go_simp
  have q3 : w1.cell? ⟨w.heap.size + 1, 3, none⟩ = some (.int .i64 0) := by rw [hc _ _ (by simp)]; go_simp
  have p3 : w1.frozen? ⟨w.heap.size + 1, 3, none⟩ = false := by rw [hf _ _ (by simp)]; go_simp
  clear hc hf
  go_wp2
  exact bodyPost_ret (v := .agg #[.int .i64 x, .int .i64 y, .int .i64 c, .int .i64 d]) (by simp [results, Try.results14, go_sem, q0, q1, q2, q3]) rfl ⟨rfl, by
    repeat (first | refine Below.drew ?_ | refine Below.setCell ?_ (by simp) _ | refine Below.alloc ?_ (by simp; omega) _)
    exact below_call (by (repeat (first | exact Below.refl _ _ | refine Below.drew ?_ | refine pw_below_drewN ?_ _ | refine Below.setCell ?_ (by simp) _ | refine Below.alloc ?_ (by simp) _ | refine Below.alloc ?_ (by omega) _ | refine Below.alloc ?_ (by simp; omega) _))) HB.out⟩
theorem rng_Stir.calls (a0_0 a0_1 a0_2 a0_3 a1 : Int) (r1 r2 r3 r4 : Int) (w : World) (h : rng_Stir.f a0_0 a0_1 a0_2 a0_3 a1 = some (r1, r2, r3, r4)) :
    Calls Try.prog 14 #[.agg #[.int .i64 a0_0, .int .i64 a0_1, .int .i64 a0_2, .int .i64 a0_3], .int .u32 a1] w fun e w' => e = .returned (.agg #[.int .i64 r1, .int .i64 r2, .int .i64 r3, .int .i64 r4]) ∧ Below w.heap.size w w' := by
  unfold rng_Stir.f at h
  by_cases c : 0 ≤ a1 ∧ a1 ≤ 4294967295
  · rw [if_pos c] at h
    simp only [Option.some.injEq, Prod.mk.injEq] at h; obtain ⟨rfl, rfl, rfl, rfl⟩ := h
    exact stir_any a0_0 a0_1 a0_2 a0_3 a1 _ _ _ _ _ _ w c (Lib.hid rfl) (Lib.hid rfl) (Lib.hid rfl) (Lib.hid rfl) (Lib.hid rfl) (Lib.hid rfl)
  · rw [if_neg c] at h; cases h

end Go.Proofs.Ytdaocpkmjkegcaa.Ext
