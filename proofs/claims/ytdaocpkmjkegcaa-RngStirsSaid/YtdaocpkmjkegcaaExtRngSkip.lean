/- Where a row stands so many words later: the walk of its loop. -/
import Derived.Test.YtdaocpkmjkegcaaExtRng
import Derived.LoopTactic
import Derived.Test.YtdaocpkmjkegcaaWMore
namespace Go.Proofs.Ytdaocpkmjkegcaa.Ext
open Go.RowKit Go.Proofs.YtdaocpkmjkegcaaW.PrintWords Go.Proofs.YtdaocpkmjkegcaaW.PrintMore Go.Proofs.Ytdaocpkmjkegcaa.Fl
attribute [local go_sem] max2_int min2_int max_two min_two

theorem blk_new2 (w : World) (o o' : Obj) : ((w.alloc o).alloc o').heap[w.heap.size + 1]? = some o' := by
  have := blk_new (w.alloc o) o'
  simpa using this
/-- A step of a place. -/
def rngStep (g : Int × Int × Int × Int) : Int × Int × Int × Int := (nextRe (g.1 % 65521) (g.2.1 % 65521) (g.2.2.1 % 65521), nextIm (g.1 % 65521) (g.2.1 % 65521) (g.2.2.2 % 65521), g.2.2.1 % 65521, g.2.2.2 % 65521)
def leastG (g : Int × Int × Int × Int) : Int × Int × Int × Int := (g.1 % 65521, g.2.1 % 65521, g.2.2.1 % 65521, g.2.2.2 % 65521)
def iterG : Nat → Int × Int × Int × Int → Int × Int × Int × Int
  | 0, g => leastG g
  | k + 1, g => rngStep (iterG k g)
def cellsG (g : Int × Int × Int × Int) : Array Value := #[.int .i64 g.1, .int .i64 g.2.1, .int .i64 g.2.2.1, .int .i64 g.2.2.2]
def manyG (n : Int) : Nat := if n ≤ 0 then 0 else if n ≤ 1000 then n.toNat else 1000
def rng_Skip.f (a b c d n : Int) : Option (Int × Int × Int × Int) := some (iterG (manyG n) (a, b, c, d))
/-- The world at a round's head: the place's block, the result's. -/
def AtG (w : World) (g : Int × Int × Int × Int) (k : Nat) (wr : World) : Prop :=
  wr.heap[w.heap.size]? = some (.cells (cellsG (iterG k g)) 24 (0, 0)) ∧ wr.heap[w.heap.size + 1]? = some (.cells #[.int .i64 0, .int .i64 0, .int .i64 0, .int .i64 0] 24 (0, 0)) ∧ Below w.heap.size w wr

set_option maxHeartbeats 2000000 in
theorem skip_any (re im cr ci n a b c d : Int) (N : Nat) (w : World) (hN : Hid (N = manyG n)) (ea : Hid (a = re % 65521)) (eb : Hid (b = im % 65521)) (ec : Hid (c = cr % 65521)) (ed : Hid (d = ci % 65521)) :
    Calls Try.prog 16 #[.agg #[.int .i64 re, .int .i64 im, .int .i64 cr, .int .i64 ci], .int .i64 n] w fun e w' => e = .returned (.agg (cellsG (iterG N (re, im, cr, ci)))) ∧ Below w.heap.size w w' := by
  have ra : 0 ≤ a ∧ a ≤ 65520 := by rw [ea.out]; exact below_mod _
  have rb : 0 ≤ b ∧ b ≤ 65520 := by rw [eb.out]; exact below_mod _
  have rc : 0 ≤ c ∧ c ≤ 65520 := by rw [ec.out]; exact below_mod _
  have rd_ : 0 ≤ d ∧ d ≤ 65520 := by rw [ed.out]; exact below_mod _
  have hpair1 : ∀ W, Calls Try.prog 22 #[.int .i64 re, .int .i64 im] W fun e w' => e = .returned (.complex .f64 (F a) (F b)) ∧ w' = W := by
    intro W; rw [ea.out, eb.out]; exact (pair_any re im W).mono fun _ _ h => ⟨h.1, h.2.symm⟩
  have hpair2 : ∀ W, Calls Try.prog 22 #[.int .i64 cr, .int .i64 ci] W fun e w' => e = .returned (.complex .f64 (F c) (F d)) ∧ w' = W := by
    intro W; rw [ec.out, ed.out]; exact (pair_any cr ci W).mono fun _ _ h => ⟨h.1, h.2.symm⟩
  have ha0 : a % 65521 = a := by omega
  have hb0 : b % 65521 = b := by omega
  have hc0 : c % 65521 = c := by omega
  have hd0 : d % 65521 = d := by omega
  have hplace : ∀ W, Calls Try.prog 19 #[.complex .f64 (F a) (F b), .complex .f64 (F c) (F d)] W fun e w' => e = .returned (.agg #[.int .i64 a, .int .i64 b, .int .i64 c, .int .i64 d]) ∧ Below W.heap.size W w' := by
    intro W
    have := place_any a b c d W (by omega) (by omega) (by omega) (by omega)
    rw [ha0, hb0, hc0, hd0] at this
    exact this
  have HP1 := Lib.hid hpair1; clear hpair1
  have HP2 := Lib.hid hpair2; clear hpair2
  have HPl := Lib.hid hplace; clear hplace
  clear ha0 hb0 hc0 hd0
  obtain ⟨m, hm⟩ : ∃ m : Int, m = if 1000 < n then 1000 else n := ⟨_, rfl⟩
  have hmn : (if 1000 < n then 1000 else n) = m := hm.symm
  have hmx : (if 0 < m then m else 0) = (N : Int) := by
    rw [hN.out, hm]; unfold manyG; (repeat' split) <;> omega
  clear hm
  go_enter Try.func16, Try.ntmps16
  go_wp2
  refine wp_region_still_tail 10 (by kernel_rfl) (by kernel_rfl) ?_
  change wpStill _ _ (World.drew _) _ _ _
  simp only [List.take_succ_cons, List.take_zero, List.drop_succ_cons, List.drop_zero]
  iterate 4 still_step
  still_call (HP1.out _)
  iterate 4 still_step
  still_call (HP2.out _)
  refine wpStill_nil ?_
  change wpList _ _ _ _ _ (World.drew _)
  go_wp2_with fail
  refine (HPl.out _).mono ?_
  rintro e w1 ⟨rfl, hb⟩
  have B1 : w1.heap[w.heap.size]? = some (.cells #[.int .i64 re, .int .i64 im, .int .i64 cr, .int .i64 ci] 24 (0, 0)) := blk_below (blk_drew (blk_alloc (blk_new w _) _)) hb
  have R1 : w1.heap[w.heap.size + 1]? = some (.cells #[.int .i64 0, .int .i64 0, .int .i64 0, .int .i64 0] 24 (0, 0)) := blk_below (blk_drew (blk_new2 w _ _)) hb
  have hs1 := hb.size
  try simp at hs1
  have HB : Hid (Below w.heap.size w w1) := Lib.hid (below_call (by (repeat (first | exact Below.refl _ _ | refine Below.drew ?_ | refine pw_below_drewN ?_ _ | refine Below.setCell ?_ (by simp) _ | refine Below.alloc ?_ (by simp) _ | refine Below.alloc ?_ (by omega) _ | refine Below.alloc ?_ (by simp; omega) _))) hb)
  clear hb
  have hlt : w.heap.size + 1 < w1.heap.size := by omega
  have q0 : w1.cell? ⟨w.heap.size, 0, none⟩ = some (.int .i64 re) := (blk_cell B1 0).trans rfl
  have q1 : w1.cell? ⟨w.heap.size, 1, none⟩ = some (.int .i64 im) := (blk_cell B1 1).trans rfl
  have q2 : w1.cell? ⟨w.heap.size, 2, none⟩ = some (.int .i64 cr) := (blk_cell B1 2).trans rfl
  have q3 : w1.cell? ⟨w.heap.size, 3, none⟩ = some (.int .i64 ci) := (blk_cell B1 3).trans rfl
  have p0 := blk_frozen B1 0
  have p1 := blk_frozen B1 1
  have p2 := blk_frozen B1 2
  have p3 := blk_frozen B1 3
  have HB1 := Lib.hid B1
  have HR1 := Lib.hid R1
  clear B1 R1
  go_wp2
  go_loopw [19, 21] (fun i t wr => ∃ k : Nat, k ≤ N ∧ i = .int .i64 k ∧ AtG w (re, im, cr, ci) k wr) (fun i _ _ => N - (intOf i).toNat)
  case atStart =>
    refine ⟨0, Nat.zero_le _, rfl, ?_, ?_, ?_⟩
    · have h1 := blk_put (blk_put (blk_put (blk_put HB1.out 0 (.int .i64 a) rfl) 1 (.int .i64 b) rfl) 2 (.int .i64 c) rfl) 3 (.int .i64 d) rfl
      refine h1.trans ?_
      show some (Obj.cells #[.int .i64 a, .int .i64 b, .int .i64 c, .int .i64 d] _ _) = some (Obj.cells #[.int .i64 (re % 65521), .int .i64 (im % 65521), .int .i64 (cr % 65521), .int .i64 (ci % 65521)] _ _)
      rw [ea.out, eb.out, ec.out, ed.out]
    · exact blk_far (blk_far (blk_far (blk_far HR1.out (by simp) _) (by simp) _) (by simp) _) (by simp) _
    · repeat (refine Below.setCell ?_ (by simp) _)
      exact HB.out
  case round =>
    obtain ⟨k, hk, rfl, hB, hR, hW⟩ := hrel
    have HB := Lib.hid hB
    have HR := Lib.hid hR
    have HW := Lib.hid hW
    have hlt := blk_lt hR
    obtain ⟨g0, g1, g2, g3, hg⟩ : ∃ g0 g1 g2 g3 : Int, iterG k (re, im, cr, ci) = (g0, g1, g2, g3) := ⟨_, _, _, _, rfl⟩
    rw [hg] at hB
    have q0 : wr.cell? ⟨w.heap.size, 0, none⟩ = some (.int .i64 g0) := (blk_cell hB 0).trans rfl
    have q1 : wr.cell? ⟨w.heap.size, 1, none⟩ = some (.int .i64 g1) := (blk_cell hB 1).trans rfl
    have q2 : wr.cell? ⟨w.heap.size, 2, none⟩ = some (.int .i64 g2) := (blk_cell hB 2).trans rfl
    have q3 : wr.cell? ⟨w.heap.size, 3, none⟩ = some (.int .i64 g3) := (blk_cell hB 3).trans rfl
    have z0 : wr.cell? ⟨w.heap.size + 1, 0, none⟩ = some (.int .i64 0) := (blk_cell hR 0).trans rfl
    have z1 : wr.cell? ⟨w.heap.size + 1, 1, none⟩ = some (.int .i64 0) := (blk_cell hR 1).trans rfl
    have z2 : wr.cell? ⟨w.heap.size + 1, 2, none⟩ = some (.int .i64 0) := (blk_cell hR 2).trans rfl
    have z3 : wr.cell? ⟨w.heap.size + 1, 3, none⟩ = some (.int .i64 0) := (blk_cell hR 3).trans rfl
    have y0 := blk_frozen hR 0
    have y1 := blk_frozen hR 1
    have y2 := blk_frozen hR 2
    have y3 := blk_frozen hR 3
    have HG := Lib.hid hg
    have HBg := Lib.hid hB
    clear hB hR hW hg
    by_cases c : k < N
    · go_wp2_with fail
      refine (rng_Next.calls _ _ _ _ _ _ _ _ _ _ rfl).mono ?_
      rintro e w2 ⟨rfl, hb⟩
      have B2 := blk_below HBg.out hb
      have R2 := blk_below HR.out hb
      have W2 := Lib.hid (below_call HW.out hb)
      clear hb q0 q1 q2 q3 z0 z1 z2 z3 y0 y1 y2 y3
      have q0 : w2.cell? ⟨w.heap.size, 0, none⟩ = some (.int .i64 g0) := (blk_cell B2 0).trans rfl
      have q1 : w2.cell? ⟨w.heap.size, 1, none⟩ = some (.int .i64 g1) := (blk_cell B2 1).trans rfl
      have q2 : w2.cell? ⟨w.heap.size, 2, none⟩ = some (.int .i64 g2) := (blk_cell B2 2).trans rfl
      have q3 : w2.cell? ⟨w.heap.size, 3, none⟩ = some (.int .i64 g3) := (blk_cell B2 3).trans rfl
      have p0 := blk_frozen B2 0
      have p1 := blk_frozen B2 1
      have p2 := blk_frozen B2 2
      have p3 := blk_frozen B2 3
      have HB2 := Lib.hid B2
      have HR2 := Lib.hid R2
      clear B2 R2
      go_wp2
      go_roundw
      case rel =>
        refine ⟨k + 1, by omega, by go_num, ?_, ?_, ?_⟩
        · refine (blk_put (blk_put (blk_put (blk_put HB2.out 0 _ rfl) 1 _ rfl) 2 _ rfl) 3 _ rfl).trans ?_
          show _ = some (Obj.cells (cellsG (rngStep (iterG k (re, im, cr, ci)))) _ _)
          rw [HG.out]; rfl
        · exact blk_far (blk_far (blk_far (blk_far HR2.out (by simp) _) (by simp) _) (by simp) _) (by simp) _
        · repeat (refine Below.setCell ?_ (by simp) _)
          exact W2.out
      case measure => simp [intOf]; omega
    · obtain rfl : k = N := by omega
      go_wp2
      exact bodyPost_ret (v := .agg #[.int .i64 g0, .int .i64 g1, .int .i64 g2, .int .i64 g3]) (by simp [results, Try.results16, go_sem, z0, z1, z2, z3]) rfl ⟨by rw [HG.out]; rfl, by
        repeat (refine Below.setCell ?_ (by simp) _)
        exact HW.out⟩
theorem rng_Skip.calls (a0_0 a0_1 a0_2 a0_3 a1 : Int) (r1 r2 r3 r4 : Int) (w : World) (h : rng_Skip.f a0_0 a0_1 a0_2 a0_3 a1 = some (r1, r2, r3, r4)) :
    Calls Try.prog 16 #[.agg #[.int .i64 a0_0, .int .i64 a0_1, .int .i64 a0_2, .int .i64 a0_3], .int .i64 a1] w fun e w' => e = .returned (.agg #[.int .i64 r1, .int .i64 r2, .int .i64 r3, .int .i64 r4]) ∧ Below w.heap.size w w' := by
  unfold rng_Skip.f at h
  have := skip_any a0_0 a0_1 a0_2 a0_3 a1 _ _ _ _ _ w (Lib.hid rfl) (Lib.hid rfl) (Lib.hid rfl) (Lib.hid rfl) (Lib.hid rfl)
  rw [Option.some.inj h] at this
  exact this
end Go.Proofs.Ytdaocpkmjkegcaa.Ext
