/- The reference's stir, by a walk of its own. -/
import Derived.Test.YtdaocpkmjkegcaaXx2
import Derived.Test.YtdaocpkmjkegcaaExtRngSkip
namespace Go.Proofs.Ytdaocpkmjkegcaa.Ext
open Go.RowKit Go.Proofs.YtdaocpkmjkegcaaW.PrintWords Go.Proofs.Ytdaocpkmjkegcaa.X

theorem ref_mod (n : Int) : zoetroperef03_mod.f n = some (n % 65521) := by
  have h := emod_of_tmod n
  have b := tmod_bounds n
  unfold zoetroperef03_mod.f
  by_cases c : Int.tmod n 65521 < 0
  · rw [if_pos c] at h ⊢
    rw [h]; congr 1; unfold wrap64; omega
  · rw [if_neg c] at h ⊢; rw [h]
theorem ref_least (a b c d : Int) : zoetroperef03_Least.f a b c d = some (a % 65521, b % 65521, c % 65521, d % 65521) := by
  unfold zoetroperef03_Least.f; simp only [ref_mod, Option.bind_some]

def zoetroperef03_Stir.f (a b c d n : Int) : Option (Int × Int × Int × Int) := rng_Stir.f a b c d n
set_option maxHeartbeats 1000000 in
theorem refstir_any (re im cr ci n a b c d x y : Int) (w : World) (hn : 0 ≤ n ∧ n ≤ 4294967295) (ex : Hid (x = (a + n % 65536) % 65521)) (ey : Hid (y = (b + n / 65536) % 65521)) (ea : Hid (a = re % 65521)) (eb : Hid (b = im % 65521)) (ec : Hid (c = cr % 65521)) (ed : Hid (d = ci % 65521)) :
    Calls Try.prog 15 #[.agg #[.int .i64 re, .int .i64 im, .int .i64 cr, .int .i64 ci], .int .u32 n] w fun e w' => e = .returned (.agg #[.int .i64 x, .int .i64 y, .int .i64 c, .int .i64 d]) ∧ Below w.heap.size w w' := by
  have ra : 0 ≤ a ∧ a ≤ 65520 := by rw [ea.out]; exact below_mod _
  have rb : 0 ≤ b ∧ b ≤ 65520 := by rw [eb.out]; exact below_mod _
  have rc : 0 ≤ c ∧ c ≤ 65520 := by rw [ec.out]; exact below_mod _
  have rd_ : 0 ≤ d ∧ d ≤ 65520 := by rw [ed.out]; exact below_mod _
  have hc0 : c % 65521 = c := by omega
  have hd0 : d % 65521 = d := by omega
  have h1 : zoetroperef03_Least.f re im cr ci = some (a, b, c, d) := by rw [ref_least, ea.out, eb.out, ec.out, ed.out]
  have h2 : zoetroperef03_Least.f (a + n % 65536) (b + n / 65536) c d = some (x, y, c, d) := by rw [ref_least, ex.out, ey.out, hc0, hd0]
  have H1 := Lib.hid h1; clear h1
  have H2 := Lib.hid h2; clear h2
  clear hc0 hd0
  have hn0 := hn.1
  have hn1 := hn.2
  have hm : 0 ≤ n % 65536 := by omega
  have hm1 : n % 65536 ≤ 65535 := by omega
  have hq : 0 ≤ n / 65536 := by omega
  have hq1 : n / 65536 ≤ 65535 := by omega
  go_enter Try.func15, Try.ntmps15
  go_wp2_with fail
  refine (zoetroperef03_Least.calls _ _ _ _ _ _ _ _ _ H1.out).mono ?_
  rintro e w1 ⟨rfl, hb⟩
  have R1 : w1.heap[w.heap.size + 1]? = some (.cells #[.int .i64 0, .int .i64 0, .int .i64 0, .int .i64 0] 24 (0, 0)) := blk_below (blk_new2 w _ _) hb
  have hs1 := hb.size
  try simp at hs1
  have HB1 : Hid (Below w.heap.size w w1) := Lib.hid (below_call (by (repeat (first | exact Below.refl _ _ | refine Below.drew ?_ | refine pw_below_drewN ?_ _ | refine Below.setCell ?_ (by simp) _ | refine Below.alloc ?_ (by simp) _ | refine Below.alloc ?_ (by omega) _ | refine Below.alloc ?_ (by simp; omega) _))) hb)
  clear hb
  have HR1 := Lib.hid R1
  clear R1
  go_wp2_with fail
  refine (zoetroperef03_Least.calls _ _ _ _ _ _ _ _ _ H2.out).mono ?_
  rintro e w2 ⟨rfl, hb⟩
  have hlt1 := blk_lt HR1.out
  have R2 : w2.heap[w.heap.size + 1]? = some (.cells #[.int .i64 0, .int .i64 0, .int .i64 0, .int .i64 0] 24 (0, 0)) := blk_below (by first | exact blk_alloc HR1.out _ | (go_outline; sorry)) hb
  have HB2 : Hid (Below w.heap.size w w2) := Lib.hid (below_call (w := w) (by repeat (first | exact HB1.out | refine Below.drew ?_ | refine Below.setCell ?_ (by first | omega | (simp; omega)) _ | refine Below.alloc ?_ (by first | omega | (simp; omega)) _)) hb)
  clear hb
  have q0 : w2.cell? ⟨w.heap.size + 1, 0, none⟩ = some (.int .i64 0) := (blk_cell R2 0).trans rfl
  have q1 : w2.cell? ⟨w.heap.size + 1, 1, none⟩ = some (.int .i64 0) := (blk_cell R2 1).trans rfl
  have q2 : w2.cell? ⟨w.heap.size + 1, 2, none⟩ = some (.int .i64 0) := (blk_cell R2 2).trans rfl
  have q3 : w2.cell? ⟨w.heap.size + 1, 3, none⟩ = some (.int .i64 0) := (blk_cell R2 3).trans rfl
  have p0 := blk_frozen R2 0
  have p1 := blk_frozen R2 1
  have p2 := blk_frozen R2 2
  have p3 := blk_frozen R2 3
  clear R2
  go_wp2
  exact bodyPost_ret (v := .agg #[.int .i64 x, .int .i64 y, .int .i64 c, .int .i64 d]) (by simp [results, Try.results15, go_sem, q0, q1, q2, q3]) rfl ⟨rfl, by
    repeat (refine Below.setCell ?_ (by simp) _)
    exact HB2.out⟩
theorem zoetroperef03_Stir.calls (a0_0 a0_1 a0_2 a0_3 a1 : Int) (r1 r2 r3 r4 : Int) (w : World) (h : zoetroperef03_Stir.f a0_0 a0_1 a0_2 a0_3 a1 = some (r1, r2, r3, r4)) :
    Calls Try.prog 15 #[.agg #[.int .i64 a0_0, .int .i64 a0_1, .int .i64 a0_2, .int .i64 a0_3], .int .u32 a1] w fun e w' => e = .returned (.agg #[.int .i64 r1, .int .i64 r2, .int .i64 r3, .int .i64 r4]) ∧ Below w.heap.size w w' := by
  unfold zoetroperef03_Stir.f rng_Stir.f at h
  by_cases c : 0 ≤ a1 ∧ a1 ≤ 4294967295
  · rw [if_pos c] at h
    simp only [Option.some.injEq, Prod.mk.injEq] at h; obtain ⟨rfl, rfl, rfl, rfl⟩ := h
    exact refstir_any a0_0 a0_1 a0_2 a0_3 a1 _ _ _ _ _ _ w c (Lib.hid rfl) (Lib.hid rfl) (Lib.hid rfl) (Lib.hid rfl) (Lib.hid rfl) (Lib.hid rfl)
  · rw [if_neg c] at h; cases h
end Go.Proofs.Ytdaocpkmjkegcaa.Ext
