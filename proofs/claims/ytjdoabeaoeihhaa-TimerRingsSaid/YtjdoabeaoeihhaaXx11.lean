-- Printed by wip/tools/xprint.py (the kit's print, with contracts typed by hand for what it does not take).
import Derived.Test.YtjdoabeaoeihhaaXx0
import Derived.Test.YtjdoabeaoeihhaaXx2
import Derived.Test.YtjdoabeaoeihhaaXx4
namespace Go.Proofs.Ytjdoabeaoeihhaa.X
open Go.RowKit Go.Proofs.YtjdoabeaoeihhaaW.PrintWords Go.Proofs.YtjdoabeaoeihhaaW.PrintLast Go.Proofs.YtjdoabeaoeihhaaW.PrintMore
attribute [local go_sem] max2_int min2_int max_two min_two max_three min_three max_four min_four   -- for this text's walks alone
set_option linter.unusedVariables false
set_option linter.unusedSimpArgs false

-- BREAK
/-! ### zoetropelaw09_TimerRings: function 8 -/
def zoetropelaw09_TimerRings.l0 : Nat → Int → Int → Int → Int → Int → Int → Bool → Option (Bool)
  | 0, _, _, _, _, _, _, _ => none
  | k + 1, x1, x5, x8, x9, x230000, x230001, x230002 => if x9 < (Go.bits .and .i64 x1 127) then ((timer_Tick.f k x230000 x230001 x230002).bind fun bt230 => (if bt230.2.2 = true then ((timer_Write.f bt230.1 bt230.2.1 bt230.2.2 8 5).bind fun bt233 => (if bt233.2.2.2 = 0 then (if bt233.2.2.1 = true then (none) else (zoetropelaw09_TimerRings.l0 k x1 x5 (wrap64 (x8 + 1)) (wrap64 (x9 + 1)) bt233.1 bt233.2.1 bt233.2.2.1)) else (none))) else (zoetropelaw09_TimerRings.l0 k x1 x5 x8 (wrap64 (x9 + 1)) bt230.1 bt230.2.1 bt230.2.2))) else (if (wrap64 (x5)) = 0 then (none) else (if x8 = (wrap64 (Int.tdiv (Go.bits .and .i64 x1 127) (wrap64 (x5)))) then ((zoetropelaw09_fixed.f k).bind fun _ => (some true)) else (none)))
def zoetropelaw09_TimerRings.f (k : Nat) (a0 : Int) (a1 : Int) : Option (Bool) := (timer_Write.f 0 0 false 0 ((1 + (Go.bits .and .u32 a0 63)) % 4294967296)).bind fun bt225 => (if bt225.2.2.2 = 0 then (zoetropelaw09_TimerRings.l0 k a1 ((1 + (Go.bits .and .u32 a0 63)) % 4294967296) 0 0 bt225.1 bt225.2.1 bt225.2.2.1) else (none))
theorem zoetropelaw09_TimerRings.mono_l : ∀ k, (∀ y0 y1 y2 y3 y4 y5 y6, LeO (zoetropelaw09_TimerRings.l0 k y0 y1 y2 y3 y4 y5 y6) (zoetropelaw09_TimerRings.l0 (k + 1) y0 y1 y2 y3 y4 y5 y6))
  | 0 => fun _ _ _ _ _ _ _ r h => by simp [zoetropelaw09_TimerRings.l0] at h
  | k + 1 => by
    have ih0 := zoetropelaw09_TimerRings.mono_l k
    · intro y0 y1 y2 y3 y4 y5 y6
      unfold zoetropelaw09_TimerRings.l0
      repeat' first
      | (with_reducible exact ih0 _ _ _ _ _ _ _)
      | (with_reducible exact timer_Tick.mono _ _ _ _)
      | (with_reducible exact zoetropelaw09_fixed.mono _)
      | (with_reducible exact LeO.refl _)
      | (with_reducible exact LeO.none _)
      | (with_reducible refine LeO.ite ?_ ?_)
      | (with_reducible refine LeO.bind ?_ (fun _ => ?_))
      | exact ih0 _ _ _ _ _ _ _
      | exact timer_Tick.mono _ _ _ _
      | exact zoetropelaw09_fixed.mono _
      | exact LeO.none _
      | refine LeO.ite ?_ ?_
      | refine LeO.bind ?_ (fun _ => ?_)
theorem zoetropelaw09_TimerRings.mono : ∀ a0 a1 k, LeO (zoetropelaw09_TimerRings.f k a0 a1) (zoetropelaw09_TimerRings.f (k + 1) a0 a1) := by
  intro a0 a1 k
  have ih0 := zoetropelaw09_TimerRings.mono_l k
  unfold zoetropelaw09_TimerRings.f
  repeat' first
      | (with_reducible exact ih0 _ _ _ _ _ _ _)
      | (with_reducible exact timer_Tick.mono _ _ _ _)
      | (with_reducible exact zoetropelaw09_fixed.mono _)
      | (with_reducible exact LeO.refl _)
      | (with_reducible exact LeO.none _)
      | (with_reducible refine LeO.ite ?_ ?_)
      | (with_reducible refine LeO.bind ?_ (fun _ => ?_))
      | exact ih0 _ _ _ _ _ _ _
      | exact timer_Tick.mono _ _ _ _
      | exact zoetropelaw09_fixed.mono _
      | exact LeO.none _
      | refine LeO.ite ?_ ?_
      | refine LeO.bind ?_ (fun _ => ?_)
set_option maxHeartbeats 8000000 in
set_option maxRecDepth 100000 in
theorem zoetropelaw09_TimerRings.calls (k : Nat) (a0 : Int) (a1 : Int) (r : Bool) (w : World) (h : zoetropelaw09_TimerRings.f k a0 a1 = some r) :
    Calls Try.prog 8 #[.int .u32 a0, .int .i64 a1] w fun e w' => e = .returned (.bool r) ∧ Below w.heap.size w w' := by
  have hu24 := Try.underlying24
  have fld24_0 : ∀ (v0_ v1_ v2_ : Value) (w_ : World), (Instr.field 24 (.agg #[v0_, v1_, v2_]) 0).run Try.prog w_ = .ok (v0_) w_ := fun _ _ _ _ => by kernel_rfl
  have fld24_1 : ∀ (v0_ v1_ v2_ : Value) (w_ : World), (Instr.field 24 (.agg #[v0_, v1_, v2_]) 1).run Try.prog w_ = .ok (v1_) w_ := fun _ _ _ _ => by kernel_rfl
  have fld24_2 : ∀ (v0_ v1_ v2_ : Value) (w_ : World), (Instr.field 24 (.agg #[v0_, v1_, v2_]) 2).run Try.prog w_ = .ok (v2_) w_ := fun _ _ _ _ => by kernel_rfl
  have HB := Aside0.mk (Below.refl w.heap.size w)
  have H : ((timer_Write.f 0 0 false 0 ((1 + (Go.bits .and .u32 a0 63)) % 4294967296)).bind fun bt225 => (if bt225.2.2.2 = 0 then (zoetropelaw09_TimerRings.l0 k a1 ((1 + (Go.bits .and .u32 a0 63)) % 4294967296) 0 0 bt225.1 bt225.2.1 bt225.2.2.1) else (none))) = some r := h
  clear h
  replace H := Option.bind_eq_some_iff.mp H
  obtain ⟨⟨t225, t226, t227, t228⟩, A30, H⟩ := H
  replace H : (if t228 = 0 then (zoetropelaw09_TimerRings.l0 k a1 ((1 + (Go.bits .and .u32 a0 63)) % 4294967296) 0 0 t225 t226 t227) else (none)) = some r := H
  have A3 := Aside0.mk A30
  clear A30
  by_cases c4 : t228 = 0
  · rw [if_pos c4] at H
    have c4b0 : (t228 == 0) = true := beq_iff_eq.mpr c4
    have c4b1 : (t228 != 0) = false := bne_eq_false_iff_eq.mpr c4
    clear c4
    have H' := Aside0.mk H
    clear H
    go_enter Try.func8, Try.ntmps8
    go_wp2_with (first | ((with_reducible refine gate_callee (f := 11) rfl ?_); refine goesL_ (some 18) rfl rfl Try.func11 (by kernel_rfl) rfl #[.agg #[.int .u32 0, .int .u32 0, .bool false], .int .u32 0, .int .u32 ((1 + (Go.bits .and .u32 a0 63)) % 4294967296)] rfl (by (try simp only [List.map_toArray, List.map_cons, List.map_nil]); first | done | rfl | (simp only [List.length_drop, List.length_take]; rfl)) ?_; (with_reducible refine (timer_Write.calls 0 0 false 0 ((1 + (Go.bits .and .u32 a0 63)) % 4294967296) t225 t226 t227 t228 _ A3.out).mono ?_); rintro e w5 ⟨rfl, hb⟩; refine ⟨_, rfl, ?_⟩; have n0_ := Aside0.mk (below_step (by repeat (first | (with_reducible first | exact HB.out | apply below_alloc | apply pw_below_drewN | apply below_drew1) | exact HB.out)) hb); clear HB; have HB := n0_; clear n0_; (try clear hb); (try clear hb2); (try clear hk); (try clear hi)) | ((with_reducible refine gate_dst (N := 6) rfl ?_); refine box_event ?hg (N := 6) ?hd (cs := #[.int .u32 0, .int .u32 0, .bool false]) (t := 24) ?hr ?_; (case hd => rfl); (case hg => rfl); (case hr => first | (go_simp; done) | (go_simp; rfl)); intro gb229 hg w6 hbox hb; have n0_ := Aside0.mk (below_step (by repeat (first | (with_reducible first | exact HB.out | apply below_alloc | apply pw_below_drewN | apply below_drew1) | exact HB.out)) hb); have n1_ := Aside0.mk (hbox); have n2_ := Aside0.mk ((by rw [hg]; exact (below_size (by repeat (first | (with_reducible first | exact HB.out | apply below_alloc | apply pw_below_drewN | apply below_drew1) | exact HB.out))) : w.heap.size ≤ gb229)); have n3_ := Aside0.mk ((by rw [hg]; exact (below_size (by repeat (first | (with_reducible first | exact HB.out | apply below_alloc | apply pw_below_drewN | apply below_drew1) | exact HB.out))) : w.heap.size ≤ gb229)); clear HB; have HB := n0_; have BK229 := n1_; have GW229 := n2_; have GE229 := n3_; clear n0_ n1_ n2_ n3_; clear hb hbox hg; have hcz7_0 : w6.cell? ⟨gb229, 0, none⟩ = some (.int .u32 0) := (blk_cell BK229.out 0).trans rfl; have hcz7_1 : w6.cell? ⟨gb229, 1, none⟩ = some (.int .u32 0) := (blk_cell BK229.out 1).trans rfl; have hcz7_2 : w6.cell? ⟨gb229, 2, none⟩ = some (.bool false) := (blk_cell BK229.out 2).trans rfl; have hfz7_0 := blk_frozen BK229.out 0; have hfz7_1 := blk_frozen BK229.out 1; have hfz7_2 := blk_frozen BK229.out 2))
    go_loopg [8, 9] k (fun kq v8 v9 w' => ∃ (x8_1 : Int) (x9_1 : Int) (x230000_1 : Int) (x230001_1 : Int) (x230002_1 : Bool), v8 = .int .i64 x8_1 ∧ v9 = .int .i64 x9_1 ∧ Aside0 (zoetropelaw09_TimerRings.l0 kq a1 ((1 + (Go.bits .and .u32 a0 63)) % 4294967296) x8_1 x9_1 x230000_1 x230001_1 x230002_1 = some r) ∧ Aside0 (kq ≤ k) ∧ Aside0 (w'.heap[gb229]? = some (.cells #[.int .u32 x230000_1, .int .u32 x230001_1, .bool x230002_1] 24 (0, 0))) ∧ Aside0 (Below w.heap.size w w'))
    case atStart => exact ⟨(0), (0), (t225), (t226), (t227), (by first | rfl | (simp; done) | (simp [*]; done)), (by first | rfl | (simp; done) | (simp [*]; done)), H', ⟨Nat.le_refl _⟩, ⟨by (with_reducible repeat (first | refine blk_drewN ?_ _ | refine blk_drew ?_ | refine blk_alloc ?_ _)); refine blk_put (cs := #[.int .u32 t225, .int .u32 t226, .bool false]) ?_ 2 _ (by first | rfl | simp [ByteArray.size_append]); (with_reducible repeat (first | refine blk_drewN ?_ _ | refine blk_drew ?_ | refine blk_alloc ?_ _)); refine blk_put (cs := #[.int .u32 t225, .int .u32 0, .bool false]) ?_ 1 _ (by first | rfl | simp [ByteArray.size_append]); (with_reducible repeat (first | refine blk_drewN ?_ _ | refine blk_drew ?_ | refine blk_alloc ?_ _)); refine blk_put (cs := #[.int .u32 0, .int .u32 0, .bool false]) ?_ 0 _ (by first | rfl | simp [ByteArray.size_append]); (with_reducible repeat (first | refine blk_drewN ?_ _ | refine blk_drew ?_ | refine blk_alloc ?_ _)); exact BK229.out⟩, ⟨by repeat (first | (with_reducible first | exact HB.out | apply below_alloc | apply pw_below_drewN | apply below_drew1 | refine below_set ?_ GE229.out) | exact HB.out)⟩⟩
    case round =>
      clear H'
      try clear c1
      try clear p2
      try clear c4
      try clear c4b0
      try clear c4b1
      try clear hcz7_0
      try clear hcz7_1
      try clear hcz7_2
      try clear hfz7_0
      try clear hfz7_1
      try clear hfz7_2
      obtain ⟨x8_1, x9_1, x230000_1, x230001_1, x230002_1, rfl, rfl, HA, HK1, BK229, HB⟩ := hrel
      cases gk with
      | zero => exact absurd HA.out (by simp [zoetropelaw09_TimerRings.l0])
      | succ k1 =>
        have H := HA.out
        clear HA
        simp only [zoetropelaw09_TimerRings.l0] at H
        by_cases c8 : x9_1 < (Go.bits .and .i64 a1 127)
        · rw [if_pos c8] at H
          have c8b0 : decide (x9_1 < (Go.bits .and .i64 a1 127)) = true := decide_eq_true c8
          clear c8
          replace H := Option.bind_eq_some_iff.mp H
          obtain ⟨⟨t230, t231, t232⟩, A90, H⟩ := H
          replace H : (if t232 = true then ((timer_Write.f t230 t231 t232 8 5).bind fun bt233 => (if bt233.2.2.2 = 0 then (if bt233.2.2.1 = true then (none) else (zoetropelaw09_TimerRings.l0 k1 a1 ((1 + (Go.bits .and .u32 a0 63)) % 4294967296) (wrap64 (x8_1 + 1)) (wrap64 (x9_1 + 1)) bt233.1 bt233.2.1 bt233.2.2.1)) else (none))) else (zoetropelaw09_TimerRings.l0 k1 a1 ((1 + (Go.bits .and .u32 a0 63)) % 4294967296) x8_1 (wrap64 (x9_1 + 1)) t230 t231 t232)) = some r := H
          have A9 := Aside0.mk A90
          clear A90
          by_cases c10 : t232 = true
          · subst c10
            have H1 : ((timer_Write.f t230 t231 true 8 5).bind fun bt233 => (if bt233.2.2.2 = 0 then (if bt233.2.2.1 = true then (none) else (zoetropelaw09_TimerRings.l0 k1 a1 ((1 + (Go.bits .and .u32 a0 63)) % 4294967296) (wrap64 (x8_1 + 1)) (wrap64 (x9_1 + 1)) bt233.1 bt233.2.1 bt233.2.2.1)) else (none))) = some r := by rw [if_pos rfl] at H; exact H
            clear H
            have H := H1
            clear H1
            replace H := Option.bind_eq_some_iff.mp H
            obtain ⟨⟨t233, t234, t235, t236⟩, A110, H⟩ := H
            replace H : (if t236 = 0 then (if t235 = true then (none) else (zoetropelaw09_TimerRings.l0 k1 a1 ((1 + (Go.bits .and .u32 a0 63)) % 4294967296) (wrap64 (x8_1 + 1)) (wrap64 (x9_1 + 1)) t233 t234 t235)) else (none)) = some r := H
            have A11 := Aside0.mk A110
            clear A110
            by_cases c12 : t236 = 0
            · rw [if_pos c12] at H
              have c12b0 : (t236 == 0) = true := beq_iff_eq.mpr c12
              have c12b1 : (t236 != 0) = false := bne_eq_false_iff_eq.mpr c12
              clear c12
              by_cases c13 : t235 = true
              · subst c13
                have H1 : (none) = some r := by rw [if_pos rfl] at H; exact H
                clear H
                have H := H1
                clear H1
                exact absurd H (by simp)
              · replace c13 := Bool.eq_false_iff.mpr c13
                subst c13
                have H1 : (zoetropelaw09_TimerRings.l0 k1 a1 ((1 + (Go.bits .and .u32 a0 63)) % 4294967296) (wrap64 (x8_1 + 1)) (wrap64 (x9_1 + 1)) t233 t234 false) = some r := by rw [if_neg (show ¬ (false = true) by decide)] at H; exact H
                clear H
                have H := H1
                clear H1
                have H' := Aside0.mk H
                clear H
                have hcz14_0 : wr.cell? ⟨gb229, 0, none⟩ = some (.int .u32 x230000_1) := (blk_cell BK229.out 0).trans rfl
                have hcz14_1 : wr.cell? ⟨gb229, 1, none⟩ = some (.int .u32 x230001_1) := (blk_cell BK229.out 1).trans rfl
                have hcz14_2 : wr.cell? ⟨gb229, 2, none⟩ = some (.bool x230002_1) := (blk_cell BK229.out 2).trans rfl
                have hfz14_0 := blk_frozen BK229.out 0
                have hfz14_1 := blk_frozen BK229.out 1
                have hfz14_2 := blk_frozen BK229.out 2
                go_wp2_with (first | ((with_reducible refine gate_callee (f := 14) rfl ?_); refine goesL_ (some 30) rfl rfl Try.func14 (by kernel_rfl) rfl #[.agg #[.int .u32 x230000_1, .int .u32 x230001_1, .bool x230002_1]] rfl (by (try simp only [List.map_toArray, List.map_cons, List.map_nil]); first | done | rfl | (simp only [List.length_drop, List.length_take]; rfl)) ?_; (with_reducible refine (timer_Tick.calls k1 x230000_1 x230001_1 x230002_1 t230 t231 true _ A9.out).mono ?_); rintro e w15 ⟨rfl, hb⟩; refine ⟨_, rfl, ?_⟩; have n0_ := Aside0.mk (blk_below (g := gb229) (o := .cells #[.int .u32 x230000_1, .int .u32 x230001_1, .bool x230002_1] 24 (0, 0)) (by (with_reducible repeat (first | refine blk_drewN ?_ _ | refine blk_drew ?_ | refine blk_alloc ?_ _)); exact BK229.out) hb); have n1_ := Aside0.mk (below_step (by repeat (first | (with_reducible first | exact HB.out | apply below_alloc | apply pw_below_drewN | apply below_drew1 | refine below_set ?_ GE229.out) | exact HB.out)) hb); clear BK229; clear HB; have BK229 := n0_; have HB := n1_; clear n0_ n1_; (try clear hb); (try clear hb2); (try clear hk); (try clear hi); have hcz16_0 : w15.cell? ⟨gb229, 0, none⟩ = some (.int .u32 x230000_1) := (blk_cell BK229.out 0).trans rfl; have hcz16_1 : w15.cell? ⟨gb229, 1, none⟩ = some (.int .u32 x230001_1) := (blk_cell BK229.out 1).trans rfl; have hcz16_2 : w15.cell? ⟨gb229, 2, none⟩ = some (.bool x230002_1) := (blk_cell BK229.out 2).trans rfl; have hfz16_0 := blk_frozen BK229.out 0; have hfz16_1 := blk_frozen BK229.out 1; have hfz16_2 := blk_frozen BK229.out 2) | ((with_reducible refine gate_callee (f := 11) rfl ?_); refine goesL_ (some 37) rfl rfl Try.func11 (by kernel_rfl) rfl #[.agg #[.int .u32 t230, .int .u32 t231, .bool true], .int .u32 8, .int .u32 5] rfl (by (try simp only [List.map_toArray, List.map_cons, List.map_nil]); first | done | rfl | (simp only [List.length_drop, List.length_take]; rfl)) ?_; (with_reducible refine (timer_Write.calls t230 t231 true 8 5 t233 t234 false t236 _ A11.out).mono ?_); rintro e w17 ⟨rfl, hb⟩; refine ⟨_, rfl, ?_⟩; have n0_ := Aside0.mk (blk_below (g := gb229) (o := .cells #[.int .u32 t230, .int .u32 t231, .bool true] 24 (0, 0)) (by (with_reducible repeat (first | refine blk_drewN ?_ _ | refine blk_drew ?_ | refine blk_alloc ?_ _)); refine blk_put (cs := #[.int .u32 t230, .int .u32 t231, .bool x230002_1]) ?_ 2 _ (by first | rfl | simp [ByteArray.size_append]); (with_reducible repeat (first | refine blk_drewN ?_ _ | refine blk_drew ?_ | refine blk_alloc ?_ _)); refine blk_put (cs := #[.int .u32 t230, .int .u32 x230001_1, .bool x230002_1]) ?_ 1 _ (by first | rfl | simp [ByteArray.size_append]); (with_reducible repeat (first | refine blk_drewN ?_ _ | refine blk_drew ?_ | refine blk_alloc ?_ _)); refine blk_put (cs := #[.int .u32 x230000_1, .int .u32 x230001_1, .bool x230002_1]) ?_ 0 _ (by first | rfl | simp [ByteArray.size_append]); (with_reducible repeat (first | refine blk_drewN ?_ _ | refine blk_drew ?_ | refine blk_alloc ?_ _)); exact BK229.out) hb); have n1_ := Aside0.mk (below_step (by repeat (first | (with_reducible first | exact HB.out | apply below_alloc | apply pw_below_drewN | apply below_drew1 | refine below_set ?_ GE229.out) | exact HB.out)) hb); clear BK229; clear HB; have BK229 := n0_; have HB := n1_; clear n0_ n1_; (try clear hb); (try clear hb2); (try clear hk); (try clear hi)) | ((with_reducible refine gate_dst (N := 10) rfl ?_); refine box_event ?hg (N := 10) ?hd (cs := #[.int .u32 0, .int .u32 0, .bool false]) (t := 24) ?hr ?_; (case hd => rfl); (case hg => rfl); (case hr => first | (go_simp; done) | (go_simp; rfl)); intro gb237 hg w18 hbox hb; have n0_ := Aside0.mk (blk_below (g := gb229) (o := .cells #[.int .u32 t230, .int .u32 t231, .bool true] 24 (0, 0)) (by (with_reducible repeat (first | refine blk_drewN ?_ _ | refine blk_drew ?_ | refine blk_alloc ?_ _)); exact BK229.out) hb); have n1_ := Aside0.mk (below_step (by repeat (first | (with_reducible first | exact HB.out | apply below_alloc | apply pw_below_drewN | apply below_drew1 | refine below_set ?_ GE229.out) | exact HB.out)) hb); have n2_ := Aside0.mk (hbox); have n3_ := Aside0.mk ((by rw [hg]; exact (below_size (by repeat (first | (with_reducible first | exact HB.out | apply below_alloc | apply pw_below_drewN | apply below_drew1 | refine below_set ?_ GE229.out) | exact HB.out))) : w.heap.size ≤ gb237)); have n4_ := Aside0.mk ((by rw [hg]; exact (below_size (by repeat (first | (with_reducible first | exact HB.out | apply below_alloc | apply pw_below_drewN | apply below_drew1 | refine below_set ?_ GE229.out) | exact HB.out))) : w.heap.size ≤ gb237)); have n5_ := Aside0.mk ((by rw [hg]; exact Nat.ne_of_lt (blk_lt (g := gb229) (o := .cells #[.int .u32 t230, .int .u32 t231, .bool true] 24 (0, 0)) (by (with_reducible repeat (first | refine blk_drewN ?_ _ | refine blk_drew ?_ | refine blk_alloc ?_ _)); exact BK229.out)) : gb229 ≠ gb237)); have n6_ := Aside0.mk ((by rw [hg]; exact Nat.ne_of_gt (blk_lt (g := gb229) (o := .cells #[.int .u32 t230, .int .u32 t231, .bool true] 24 (0, 0)) (by (with_reducible repeat (first | refine blk_drewN ?_ _ | refine blk_drew ?_ | refine blk_alloc ?_ _)); exact BK229.out)) : gb237 ≠ gb229)); clear BK229; clear HB; have BK229 := n0_; have HB := n1_; have BK237 := n2_; have GW237 := n3_; have GE237 := n4_; have NB229_237 := n5_; have NB237_229 := n6_; clear n0_ n1_ n2_ n3_ n4_ n5_ n6_; clear hb hbox hg; have hnb19 := NB237_229.out; have hnc19 := NB229_237.out; have hcz20_0 : w18.cell? ⟨gb237, 0, none⟩ = some (.int .u32 0) := (blk_cell BK237.out 0).trans rfl; have hcz20_1 : w18.cell? ⟨gb237, 1, none⟩ = some (.int .u32 0) := (blk_cell BK237.out 1).trans rfl; have hcz20_2 : w18.cell? ⟨gb237, 2, none⟩ = some (.bool false) := (blk_cell BK237.out 2).trans rfl; have hfz20_0 := blk_frozen BK237.out 0; have hfz20_1 := blk_frozen BK237.out 1; have hfz20_2 := blk_frozen BK237.out 2; have hcz21_0 : w18.cell? ⟨gb229, 0, none⟩ = some (.int .u32 t230) := (blk_cell BK229.out 0).trans rfl; have hcz21_1 : w18.cell? ⟨gb229, 1, none⟩ = some (.int .u32 t231) := (blk_cell BK229.out 1).trans rfl; have hcz21_2 : w18.cell? ⟨gb229, 2, none⟩ = some (.bool true) := (blk_cell BK229.out 2).trans rfl; have hfz21_0 := blk_frozen BK229.out 0; have hfz21_1 := blk_frozen BK229.out 1; have hfz21_2 := blk_frozen BK229.out 2))
                go_roundg k1
                case measure => have := HK1.out; omega
                case rel => exact ⟨(wrap64 (x8_1 + 1)), (wrap64 (x9_1 + 1)), (t233), (t234), (false), (by first | rfl | (simp; done) | (simp [*]; done)), (by first | rfl | (simp; done) | (simp [*]; done)), H', ⟨by have := HK1.out; omega⟩, ⟨by (with_reducible repeat (first | refine blk_drewN ?_ _ | refine blk_drew ?_ | refine blk_alloc ?_ _)); refine blk_put (cs := #[.int .u32 t233, .int .u32 t234, .bool true]) ?_ 2 _ (by first | rfl | simp [ByteArray.size_append]); (with_reducible repeat (first | refine blk_drewN ?_ _ | refine blk_drew ?_ | refine blk_alloc ?_ _)); refine blk_put (cs := #[.int .u32 t233, .int .u32 t231, .bool true]) ?_ 1 _ (by first | rfl | simp [ByteArray.size_append]); (with_reducible repeat (first | refine blk_drewN ?_ _ | refine blk_drew ?_ | refine blk_alloc ?_ _)); refine blk_put (cs := #[.int .u32 t230, .int .u32 t231, .bool true]) ?_ 0 _ (by first | rfl | simp [ByteArray.size_append]); (with_reducible repeat (first | refine blk_drewN ?_ _ | refine blk_drew ?_ | refine blk_alloc ?_ _)); refine blk_far ?_ NB229_237.out _; (with_reducible repeat (first | refine blk_drewN ?_ _ | refine blk_drew ?_ | refine blk_alloc ?_ _)); refine blk_far ?_ NB229_237.out _; (with_reducible repeat (first | refine blk_drewN ?_ _ | refine blk_drew ?_ | refine blk_alloc ?_ _)); refine blk_far ?_ NB229_237.out _; (with_reducible repeat (first | refine blk_drewN ?_ _ | refine blk_drew ?_ | refine blk_alloc ?_ _)); exact BK229.out⟩, ⟨by repeat (first | (with_reducible first | exact HB.out | apply below_alloc | apply pw_below_drewN | apply below_drew1 | refine below_set ?_ GE229.out | refine below_set ?_ GE237.out) | exact HB.out)⟩⟩
            · rw [if_neg c12] at H
              exact absurd H (by simp)
          · replace c10 := Bool.eq_false_iff.mpr c10
            subst c10
            have H1 : (zoetropelaw09_TimerRings.l0 k1 a1 ((1 + (Go.bits .and .u32 a0 63)) % 4294967296) x8_1 (wrap64 (x9_1 + 1)) t230 t231 false) = some r := by rw [if_neg (show ¬ (false = true) by decide)] at H; exact H
            clear H
            have H := H1
            clear H1
            have H' := Aside0.mk H
            clear H
            have hcz22_0 : wr.cell? ⟨gb229, 0, none⟩ = some (.int .u32 x230000_1) := (blk_cell BK229.out 0).trans rfl
            have hcz22_1 : wr.cell? ⟨gb229, 1, none⟩ = some (.int .u32 x230001_1) := (blk_cell BK229.out 1).trans rfl
            have hcz22_2 : wr.cell? ⟨gb229, 2, none⟩ = some (.bool x230002_1) := (blk_cell BK229.out 2).trans rfl
            have hfz22_0 := blk_frozen BK229.out 0
            have hfz22_1 := blk_frozen BK229.out 1
            have hfz22_2 := blk_frozen BK229.out 2
            go_wp2_with (first | ((with_reducible refine gate_callee (f := 14) rfl ?_); refine goesL_ (some 30) rfl rfl Try.func14 (by kernel_rfl) rfl #[.agg #[.int .u32 x230000_1, .int .u32 x230001_1, .bool x230002_1]] rfl (by (try simp only [List.map_toArray, List.map_cons, List.map_nil]); first | done | rfl | (simp only [List.length_drop, List.length_take]; rfl)) ?_; (with_reducible refine (timer_Tick.calls k1 x230000_1 x230001_1 x230002_1 t230 t231 false _ A9.out).mono ?_); rintro e w23 ⟨rfl, hb⟩; refine ⟨_, rfl, ?_⟩; have n0_ := Aside0.mk (blk_below (g := gb229) (o := .cells #[.int .u32 x230000_1, .int .u32 x230001_1, .bool x230002_1] 24 (0, 0)) (by (with_reducible repeat (first | refine blk_drewN ?_ _ | refine blk_drew ?_ | refine blk_alloc ?_ _)); exact BK229.out) hb); have n1_ := Aside0.mk (below_step (by repeat (first | (with_reducible first | exact HB.out | apply below_alloc | apply pw_below_drewN | apply below_drew1 | refine below_set ?_ GE229.out) | exact HB.out)) hb); clear BK229; clear HB; have BK229 := n0_; have HB := n1_; clear n0_ n1_; (try clear hb); (try clear hb2); (try clear hk); (try clear hi); have hcz24_0 : w23.cell? ⟨gb229, 0, none⟩ = some (.int .u32 x230000_1) := (blk_cell BK229.out 0).trans rfl; have hcz24_1 : w23.cell? ⟨gb229, 1, none⟩ = some (.int .u32 x230001_1) := (blk_cell BK229.out 1).trans rfl; have hcz24_2 : w23.cell? ⟨gb229, 2, none⟩ = some (.bool x230002_1) := (blk_cell BK229.out 2).trans rfl; have hfz24_0 := blk_frozen BK229.out 0; have hfz24_1 := blk_frozen BK229.out 1; have hfz24_2 := blk_frozen BK229.out 2))
            go_roundg k1
            case measure => have := HK1.out; omega
            case rel => exact ⟨(x8_1), (wrap64 (x9_1 + 1)), (t230), (t231), (false), (by first | rfl | (simp; done) | (simp [*]; done)), (by first | rfl | (simp; done) | (simp [*]; done)), H', ⟨by have := HK1.out; omega⟩, ⟨by (with_reducible repeat (first | refine blk_drewN ?_ _ | refine blk_drew ?_ | refine blk_alloc ?_ _)); refine blk_put (cs := #[.int .u32 t230, .int .u32 t231, .bool x230002_1]) ?_ 2 _ (by first | rfl | simp [ByteArray.size_append]); (with_reducible repeat (first | refine blk_drewN ?_ _ | refine blk_drew ?_ | refine blk_alloc ?_ _)); refine blk_put (cs := #[.int .u32 t230, .int .u32 x230001_1, .bool x230002_1]) ?_ 1 _ (by first | rfl | simp [ByteArray.size_append]); (with_reducible repeat (first | refine blk_drewN ?_ _ | refine blk_drew ?_ | refine blk_alloc ?_ _)); refine blk_put (cs := #[.int .u32 x230000_1, .int .u32 x230001_1, .bool x230002_1]) ?_ 0 _ (by first | rfl | simp [ByteArray.size_append]); (with_reducible repeat (first | refine blk_drewN ?_ _ | refine blk_drew ?_ | refine blk_alloc ?_ _)); exact BK229.out⟩, ⟨by repeat (first | (with_reducible first | exact HB.out | apply below_alloc | apply pw_below_drewN | apply below_drew1 | refine below_set ?_ GE229.out) | exact HB.out)⟩⟩
        · rw [if_neg c8] at H
          have c8b0 : decide (x9_1 < (Go.bits .and .i64 a1 127)) = false := decide_eq_false c8
          clear c8
          by_cases c25 : (wrap64 (((1 + (Go.bits .and .u32 a0 63)) % 4294967296))) = 0
          · rw [if_pos c25] at H
            exact absurd H (by simp)
          · rw [if_neg c25] at H
            have c25b0 : ((wrap64 (((1 + (Go.bits .and .u32 a0 63)) % 4294967296))) == 0) = false := beq_eq_false_iff_ne.mpr c25
            (try (have c25y0 := c25b0; simp only [show wrap64 ((1 + (Go.bits .and .u32 a0 63)) % 4294967296) = (1 + (Go.bits .and .u32 a0 63)) % 4294967296 from by unfold wrap64; omega] at c25y0))
            (try (have c25q0 := c25; simp only [show wrap64 ((1 + (Go.bits .and .u32 a0 63)) % 4294967296) = (1 + (Go.bits .and .u32 a0 63)) % 4294967296 from by unfold wrap64; omega] at c25q0))
            have c25b1 : ((wrap64 (((1 + (Go.bits .and .u32 a0 63)) % 4294967296))) != 0) = true := bne_iff_ne.mpr c25
            (try (have c25y1 := c25b1; simp only [show wrap64 ((1 + (Go.bits .and .u32 a0 63)) % 4294967296) = (1 + (Go.bits .and .u32 a0 63)) % 4294967296 from by unfold wrap64; omega] at c25y1))
            by_cases c26 : x8_1 = (wrap64 (Int.tdiv (Go.bits .and .i64 a1 127) (wrap64 (((1 + (Go.bits .and .u32 a0 63)) % 4294967296)))))
            · rw [if_pos c26] at H
              have c26b0 : (x8_1 == (wrap64 (Int.tdiv (Go.bits .and .i64 a1 127) (wrap64 (((1 + (Go.bits .and .u32 a0 63)) % 4294967296)))))) = true := beq_iff_eq.mpr c26
              (try (have c26y0 := c26b0; simp only [show wrap64 ((1 + (Go.bits .and .u32 a0 63)) % 4294967296) = (1 + (Go.bits .and .u32 a0 63)) % 4294967296 from by unfold wrap64; omega] at c26y0))
              (try (have c26q0 := c26; simp only [show wrap64 ((1 + (Go.bits .and .u32 a0 63)) % 4294967296) = (1 + (Go.bits .and .u32 a0 63)) % 4294967296 from by unfold wrap64; omega] at c26q0))
              have c26b1 : (x8_1 != (wrap64 (Int.tdiv (Go.bits .and .i64 a1 127) (wrap64 (((1 + (Go.bits .and .u32 a0 63)) % 4294967296)))))) = false := bne_eq_false_iff_eq.mpr c26
              (try (have c26y1 := c26b1; simp only [show wrap64 ((1 + (Go.bits .and .u32 a0 63)) % 4294967296) = (1 + (Go.bits .and .u32 a0 63)) % 4294967296 from by unfold wrap64; omega] at c26y1))
              clear c26
              replace H := Option.bind_eq_some_iff.mp H
              obtain ⟨kz_, A270, H⟩ := H
              have hk_ := A270
              obtain rfl : (true) = kz_ := Option.some.inj ((at_rounds (g := fun k_ => zoetropelaw09_fixed.f k_) (zoetropelaw09_fixed.mono) (Nat.le_max_left 64 k1) (show zoetropelaw09_fixed.f 64 = some (true) by decide +kernel)).symm.trans (at_rounds (g := fun k_ => zoetropelaw09_fixed.f k_) (zoetropelaw09_fixed.mono) (Nat.le_max_right 64 k1) hk_))
              replace H : (some true) = some r := H
              have A27 := Aside0.mk hk_
              clear A270 hk_
              obtain rfl := Option.some.inj H
              go_wp2_with (first | (go_at_call 13; (with_reducible refine (zoetropelaw09_fixed.calls k1  true _ A27.out).mono ?_); rintro e w28 ⟨rfl, hb⟩; have n0_ := Aside0.mk (blk_below (g := gb229) (o := .cells #[.int .u32 x230000_1, .int .u32 x230001_1, .bool x230002_1] 24 (0, 0)) (by (with_reducible repeat (first | refine blk_drewN ?_ _ | refine blk_drew ?_ | refine blk_alloc ?_ _)); exact BK229.out) hb); have n1_ := Aside0.mk (below_step (by repeat (first | (with_reducible first | exact HB.out | apply below_alloc | apply pw_below_drewN | apply below_drew1 | refine below_set ?_ GE229.out) | exact HB.out)) hb); clear BK229; clear HB; have BK229 := n0_; have HB := n1_; clear n0_ n1_; (try clear hb); (try clear hb2); (try clear hk); (try clear hi)))
              go_ret
              exact ⟨by first | rfl | (simp [errW_none, errW_some] <;> rfl) | (simp [*, errW_none, errW_some] <;> rfl) | (simp [errW_none, errW_some, IntKind.wrap_u32, IntKind.wrap_u8, IntKind.wrap_u64, IntKind.wrap_i64, Int.tmod_eq_emod_of_nonneg] <;> omega) | (simp [errW_none, errW_some] <;> (rw [Bool.eq_iff_iff]; simp)), by repeat (first | (with_reducible first | exact HB.out | apply below_alloc | apply pw_below_drewN | apply below_drew1 | refine below_set ?_ GE229.out) | exact HB.out)⟩
            · rw [if_neg c26] at H
              exact absurd H (by simp)
  · rw [if_neg c4] at H
    exact absurd H (by simp)

/-- THE ONE PURE STATEMENT of zoetropelaw09_TimerRings: yours. -/
def zoetropelaw09_TimerRings.Pure : Prop := ∀ (a0 : Int) (a1 : Int), (Lit.int .u32 a0).wf = true → (Lit.int .i64 a1).wf = true → ∃ k, zoetropelaw09_TimerRings.f k a0 a1 = some true
theorem zoetropelaw09_TimerRings.walk (P : zoetropelaw09_TimerRings.Pure) (a0 : Int) (a1 : Int) (w : World) (w0 : (Lit.int .u32 a0).wf = true) (w1 : (Lit.int .i64 a1).wf = true) :
    Calls Try.prog 8 #[.int .u32 a0, .int .i64 a1] w fun e w' => e = .returned (.bool true) ∧ Below w.heap.size w w' := by
  obtain ⟨k, h⟩ := P a0 a1 w0 w1
  refine (zoetropelaw09_TimerRings.calls k a0 a1 true w h).mono ?_
  rintro e w' ⟨rfl, hd⟩
  exact ⟨rfl, hd⟩

end Go.Proofs.Ytjdoabeaoeihhaa.X
