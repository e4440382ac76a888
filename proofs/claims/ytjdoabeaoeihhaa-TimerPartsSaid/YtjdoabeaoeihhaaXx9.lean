-- Printed by wip/tools/xprint.py (the kit's print, with contracts typed by hand for what it does not take).
import Derived.Test.YtjdoabeaoeihhaaXx0
import Derived.Test.YtjdoabeaoeihhaaXx1
import Derived.Test.YtjdoabeaoeihhaaXx2
import Derived.Test.YtjdoabeaoeihhaaXx4
import Derived.Test.YtjdoabeaoeihhaaExtShapes09
namespace Go.Proofs.Ytjdoabeaoeihhaa.X
open Go.RowKit Go.Proofs.YtjdoabeaoeihhaaW.PrintWords Go.Proofs.YtjdoabeaoeihhaaW.PrintLast Go.Proofs.YtjdoabeaoeihhaaW.PrintMore
attribute [local go_sem] max2_int min2_int max_two min_two max_three min_three max_four min_four   -- for this text's walks alone
open Go.Proofs.Ytjdoabeaoeihhaa.Ext
set_option linter.unusedVariables false
set_option linter.unusedSimpArgs false

attribute [local go_sem high] eqA24
-- BREAK
/-! ### zoetropelaw09_TimerParts: function 6 -/
def zoetropelaw09_TimerParts.f (k : Nat) (a0_0 : Int) (a0_1 : Int) (a0_2 : Bool) (a0_3 : Int) (a0_4 : Int) (a0_5 : Int) : Option (Bool) := if ((0) ≤ a0_0 ∧ a0_0 ≤ 4294967295) ∧ ((0) ≤ a0_1 ∧ a0_1 ≤ 4294967295) ∧ ((-9223372036854775808) ≤ a0_3 ∧ a0_3 ≤ 9223372036854775807) ∧ ((-9223372036854775808) ≤ a0_4 ∧ a0_4 ≤ 9223372036854775807) ∧ ((0) ≤ a0_5 ∧ a0_5 ≤ 4294967295) then ((timer_Ticks.f k a0_0 a0_1 a0_2 (Go.bits .and .i64 a0_3 274877906943)).bind fun bt193 => ((timer_Ticks.f k bt193.1 bt193.2.1 bt193.2.2 (Go.bits .and .i64 a0_4 274877906943)).bind fun bt196 => ((timer_Ticks.f k a0_0 a0_1 a0_2 (wrap64 ((Go.bits .and .i64 a0_3 274877906943) + (Go.bits .and .i64 a0_4 274877906943)))).bind fun bt199 => (if (!(bt196.1 == bt199.1) || (!(bt196.2.1 == bt199.2.1) || (!(bt196.2.2 == bt199.2.2)))) = true then (none) else ((timer_Write.f 0 0 false 0 a0_5).bind fun _ => ((timer_Ticks.f k a0_5 a0_5 false (wrap64 ((wrap64 (a0_5)) - 1))).bind fun bt203 => ((timer_Ticks.f k a0_5 a0_5 false (wrap64 (a0_5))).bind fun bt206 => ((zoetropelaw09_fixed.f k).bind fun _ => (if bt203.2.2 = true then (none) else (some (bt206.2.2 == (decide (a0_5 > 0))))))))))))) else none
theorem zoetropelaw09_TimerParts.mono : ∀ a0 a1 a2 a3 a4 a5 k, LeO (zoetropelaw09_TimerParts.f k a0 a1 a2 a3 a4 a5) (zoetropelaw09_TimerParts.f (k + 1) a0 a1 a2 a3 a4 a5) := by
  intro a0 a1 a2 a3 a4 a5 k
  unfold zoetropelaw09_TimerParts.f
  repeat' first
      | (with_reducible exact timer_Ticks.mono _ _ _ _ _)
      | (with_reducible exact zoetropelaw09_fixed.mono _)
      | (with_reducible exact LeO.refl _)
      | (with_reducible exact LeO.none _)
      | (with_reducible refine LeO.ite ?_ ?_)
      | (with_reducible refine LeO.bind ?_ (fun _ => ?_))
      | exact timer_Ticks.mono _ _ _ _ _
      | exact zoetropelaw09_fixed.mono _
      | exact LeO.none _
      | refine LeO.ite ?_ ?_
      | refine LeO.bind ?_ (fun _ => ?_)
def zoetropelaw09_TimerParts.T2 : Bool × List (List Nat × List Nat) := (true, [([], []), ([0], [0]), ([1], [1]), ([], []), ([3], [3]), ([4], [4]), ([2, 0, 1, 2], [2]), ([5, 6, 0, 1, 2, 3, 4, 5, 6], [5])])
def zoetropelaw09_TimerParts.B2 : List Nat := [0, 1, 3, 0, 8, 24, 7, 127]
theorem zoetropelaw09_TimerParts.tab2 : rtab .any (opsOf Try.f6 2) = zoetropelaw09_TimerParts.T2 := by kernel_rfl
theorem zoetropelaw09_TimerParts.bits2 : waitsOk zoetropelaw09_TimerParts.T2.2 zoetropelaw09_TimerParts.B2 = true := by kernel_rfl
def zoetropelaw09_TimerParts.T3 : Bool × List (List Nat × List Nat) := (true, [([], []), ([], []), ([0, 1], [0, 1]), ([], []), ([2, 3, 2], [2, 3]), ([], []), ([], []), ([], []), ([6, 7], [6, 7]), ([5, 8, 4], [5, 8]), ([4, 9], [4, 9])])
def zoetropelaw09_TimerParts.B3 : List Nat := [0, 0, 3, 0, 15, 0, 0, 0, 192, 511, 1023]
theorem zoetropelaw09_TimerParts.tab3 : rtab .any (opsOf Try.f6 3) = zoetropelaw09_TimerParts.T3 := by kernel_rfl
theorem zoetropelaw09_TimerParts.bits3 : waitsOk zoetropelaw09_TimerParts.T3.2 zoetropelaw09_TimerParts.B3 = true := by kernel_rfl
def zoetropelaw09_TimerParts.T8 : Bool × List (List Nat × List Nat) := (true, [([], []), ([], []), ([1], [1]), ([2], [2]), ([0, 3], [0, 3]), ([], []), ([], []), ([6], [6]), ([5, 7, 4], [5, 7]), ([], []), ([], []), ([9, 4, 8, 0, 1, 2, 3, 4, 9, 10], [4, 9]), ([10, 8, 11, 0, 1, 2, 3, 4, 5, 6, 7, 8, 9, 10, 11], [8, 10])])
def zoetropelaw09_TimerParts.B8 : List Nat := [0, 0, 2, 6, 15, 0, 0, 64, 255, 0, 0, 2047, 4095]
theorem zoetropelaw09_TimerParts.tab8 : rtab .any (opsOf Try.f6 8) = zoetropelaw09_TimerParts.T8 := by kernel_rfl
theorem zoetropelaw09_TimerParts.bits8 : waitsOk zoetropelaw09_TimerParts.T8.2 zoetropelaw09_TimerParts.B8 = true := by kernel_rfl
set_option maxHeartbeats 8000000 in
set_option maxRecDepth 100000 in
theorem zoetropelaw09_TimerParts.calls (k : Nat) (a0_0 : Int) (a0_1 : Int) (a0_2 : Bool) (a0_3 : Int) (a0_4 : Int) (a0_5 : Int) (r : Bool) (w : World) (h : zoetropelaw09_TimerParts.f k a0_0 a0_1 a0_2 a0_3 a0_4 a0_5 = some r) :
    Calls Try.prog 6 #[.agg #[.int .u32 a0_0, .int .u32 a0_1, .bool a0_2, .int .i64 a0_3, .int .i64 a0_4, .int .u32 a0_5]] w fun e w' => e = .returned (.bool r) ∧ Below w.heap.size w w' := by
  have hu39 := Try.underlying39
  have hu24 := Try.underlying24
  have fld24_0 : ∀ (v0_ v1_ v2_ : Value) (w_ : World), (Instr.field 24 (.agg #[v0_, v1_, v2_]) 0).run Try.prog w_ = .ok (v0_) w_ := fun _ _ _ _ => by kernel_rfl
  have fld24_1 : ∀ (v0_ v1_ v2_ : Value) (w_ : World), (Instr.field 24 (.agg #[v0_, v1_, v2_]) 1).run Try.prog w_ = .ok (v1_) w_ := fun _ _ _ _ => by kernel_rfl
  have fld24_2 : ∀ (v0_ v1_ v2_ : Value) (w_ : World), (Instr.field 24 (.agg #[v0_, v1_, v2_]) 2).run Try.prog w_ = .ok (v2_) w_ := fun _ _ _ _ => by kernel_rfl
  have HB := Aside0.mk (Below.refl w.heap.size w)
  have H0_ : (if ((0) ≤ a0_0 ∧ a0_0 ≤ 4294967295) ∧ ((0) ≤ a0_1 ∧ a0_1 ≤ 4294967295) ∧ ((-9223372036854775808) ≤ a0_3 ∧ a0_3 ≤ 9223372036854775807) ∧ ((-9223372036854775808) ≤ a0_4 ∧ a0_4 ≤ 9223372036854775807) ∧ ((0) ≤ a0_5 ∧ a0_5 ≤ 4294967295) then ((timer_Ticks.f k a0_0 a0_1 a0_2 (Go.bits .and .i64 a0_3 274877906943)).bind fun bt193 => ((timer_Ticks.f k bt193.1 bt193.2.1 bt193.2.2 (Go.bits .and .i64 a0_4 274877906943)).bind fun bt196 => ((timer_Ticks.f k a0_0 a0_1 a0_2 (wrap64 ((Go.bits .and .i64 a0_3 274877906943) + (Go.bits .and .i64 a0_4 274877906943)))).bind fun bt199 => (if (!(bt196.1 == bt199.1) || (!(bt196.2.1 == bt199.2.1) || (!(bt196.2.2 == bt199.2.2)))) = true then (none) else ((timer_Write.f 0 0 false 0 a0_5).bind fun _ => ((timer_Ticks.f k a0_5 a0_5 false (wrap64 ((wrap64 (a0_5)) - 1))).bind fun bt203 => ((timer_Ticks.f k a0_5 a0_5 false (wrap64 (a0_5))).bind fun bt206 => ((zoetropelaw09_fixed.f k).bind fun _ => (if bt203.2.2 = true then (none) else (some (bt206.2.2 == (decide (a0_5 > 0))))))))))))) else none) = some r := h
  clear h
  have gd_ : ((0) ≤ a0_0 ∧ a0_0 ≤ 4294967295) ∧ ((0) ≤ a0_1 ∧ a0_1 ≤ 4294967295) ∧ ((-9223372036854775808) ≤ a0_3 ∧ a0_3 ≤ 9223372036854775807) ∧ ((-9223372036854775808) ≤ a0_4 ∧ a0_4 ≤ 9223372036854775807) ∧ ((0) ≤ a0_5 ∧ a0_5 ≤ 4294967295) := Classical.byContradiction fun hn_ => by rw [if_neg hn_] at H0_; exact absurd H0_ (by simp)
  have H : ((timer_Ticks.f k a0_0 a0_1 a0_2 (Go.bits .and .i64 a0_3 274877906943)).bind fun bt193 => ((timer_Ticks.f k bt193.1 bt193.2.1 bt193.2.2 (Go.bits .and .i64 a0_4 274877906943)).bind fun bt196 => ((timer_Ticks.f k a0_0 a0_1 a0_2 (wrap64 ((Go.bits .and .i64 a0_3 274877906943) + (Go.bits .and .i64 a0_4 274877906943)))).bind fun bt199 => (if (!(bt196.1 == bt199.1) || (!(bt196.2.1 == bt199.2.1) || (!(bt196.2.2 == bt199.2.2)))) = true then (none) else ((timer_Write.f 0 0 false 0 a0_5).bind fun _ => ((timer_Ticks.f k a0_5 a0_5 false (wrap64 ((wrap64 (a0_5)) - 1))).bind fun bt203 => ((timer_Ticks.f k a0_5 a0_5 false (wrap64 (a0_5))).bind fun bt206 => ((zoetropelaw09_fixed.f k).bind fun _ => (if bt203.2.2 = true then (none) else (some (bt206.2.2 == (decide (a0_5 > 0))))))))))))) = some r := by rw [if_pos gd_] at H0_; exact H0_
  have GD := Aside0.mk gd_
  clear gd_ H0_
  replace H := Option.bind_eq_some_iff.mp H
  obtain ⟨⟨t193, t194, t195⟩, A20, H⟩ := H
  replace H : ((timer_Ticks.f k t193 t194 t195 (Go.bits .and .i64 a0_4 274877906943)).bind fun bt196 => ((timer_Ticks.f k a0_0 a0_1 a0_2 (wrap64 ((Go.bits .and .i64 a0_3 274877906943) + (Go.bits .and .i64 a0_4 274877906943)))).bind fun bt199 => (if (!(bt196.1 == bt199.1) || (!(bt196.2.1 == bt199.2.1) || (!(bt196.2.2 == bt199.2.2)))) = true then (none) else ((timer_Write.f 0 0 false 0 a0_5).bind fun _ => ((timer_Ticks.f k a0_5 a0_5 false (wrap64 ((wrap64 (a0_5)) - 1))).bind fun bt203 => ((timer_Ticks.f k a0_5 a0_5 false (wrap64 (a0_5))).bind fun bt206 => ((zoetropelaw09_fixed.f k).bind fun _ => (if bt203.2.2 = true then (none) else (some (bt206.2.2 == (decide (a0_5 > 0)))))))))))) = some r := H
  have A2 := Aside0.mk A20
  clear A20
  replace H := Option.bind_eq_some_iff.mp H
  obtain ⟨⟨t196, t197, t198⟩, A30, H⟩ := H
  replace H : ((timer_Ticks.f k a0_0 a0_1 a0_2 (wrap64 ((Go.bits .and .i64 a0_3 274877906943) + (Go.bits .and .i64 a0_4 274877906943)))).bind fun bt199 => (if (!(t196 == bt199.1) || (!(t197 == bt199.2.1) || (!(t198 == bt199.2.2)))) = true then (none) else ((timer_Write.f 0 0 false 0 a0_5).bind fun _ => ((timer_Ticks.f k a0_5 a0_5 false (wrap64 ((wrap64 (a0_5)) - 1))).bind fun bt203 => ((timer_Ticks.f k a0_5 a0_5 false (wrap64 (a0_5))).bind fun bt206 => ((zoetropelaw09_fixed.f k).bind fun _ => (if bt203.2.2 = true then (none) else (some (bt206.2.2 == (decide (a0_5 > 0))))))))))) = some r := H
  have A3 := Aside0.mk A30
  clear A30
  replace H := Option.bind_eq_some_iff.mp H
  obtain ⟨⟨t199, t200, t201⟩, A40, H⟩ := H
  replace H : (if (!(t196 == t199) || (!(t197 == t200) || (!(t198 == t201)))) = true then (none) else ((timer_Write.f 0 0 false 0 a0_5).bind fun _ => ((timer_Ticks.f k a0_5 a0_5 false (wrap64 ((wrap64 (a0_5)) - 1))).bind fun bt203 => ((timer_Ticks.f k a0_5 a0_5 false (wrap64 (a0_5))).bind fun bt206 => ((zoetropelaw09_fixed.f k).bind fun _ => (if bt203.2.2 = true then (none) else (some (bt206.2.2 == (decide (a0_5 > 0)))))))))) = some r := H
  have A4 := Aside0.mk A40
  clear A40
  by_cases c5 : (!(t196 == t199) || (!(t197 == t200) || (!(t198 == t201)))) = true
  · rw [if_pos c5] at H
    exact absurd H (by simp)
  · rw [if_neg c5] at H
    have c5b0 : (!(t196 == t199) || (!(t197 == t200) || (!(t198 == t201)))) = false := by simpa using c5
    clear c5
    replace H := Option.bind_eq_some_iff.mp H
    obtain ⟨⟨kz0_, kz1_, kz2_, kz3_⟩, A60, H⟩ := H
    obtain ⟨rfl, rfl, rfl, rfl⟩ : (a0_5) = kz0_ ∧ (a0_5) = kz1_ ∧ (false) = kz2_ ∧ (0) = kz3_ := shape_timer_Write0.same A60
    replace H : ((timer_Ticks.f k a0_5 a0_5 false (wrap64 ((wrap64 (a0_5)) - 1))).bind fun bt203 => ((timer_Ticks.f k a0_5 a0_5 false (wrap64 (a0_5))).bind fun bt206 => ((zoetropelaw09_fixed.f k).bind fun _ => (if bt203.2.2 = true then (none) else (some (bt206.2.2 == (decide (a0_5 > 0)))))))) = some r := H
    have A6 := Aside0.mk A60
    clear A60
    replace H := Option.bind_eq_some_iff.mp H
    obtain ⟨⟨t203, t204, t205⟩, A70, H⟩ := H
    replace H : ((timer_Ticks.f k a0_5 a0_5 false (wrap64 (a0_5))).bind fun bt206 => ((zoetropelaw09_fixed.f k).bind fun _ => (if t205 = true then (none) else (some (bt206.2.2 == (decide (a0_5 > 0))))))) = some r := H
    have A7 := Aside0.mk A70
    clear A70
    replace H := Option.bind_eq_some_iff.mp H
    obtain ⟨⟨t206, t207, t208⟩, A80, H⟩ := H
    replace H : ((zoetropelaw09_fixed.f k).bind fun _ => (if t205 = true then (none) else (some (t208 == (decide (a0_5 > 0)))))) = some r := H
    have A8 := Aside0.mk A80
    clear A80
    replace H := Option.bind_eq_some_iff.mp H
    obtain ⟨kz_, A90, H⟩ := H
    have hk_ := A90
    obtain rfl : (true) = kz_ := Option.some.inj ((at_rounds (g := fun k_ => zoetropelaw09_fixed.f k_) (zoetropelaw09_fixed.mono) (Nat.le_max_left 64 k) (show zoetropelaw09_fixed.f 64 = some (true) by decide +kernel)).symm.trans (at_rounds (g := fun k_ => zoetropelaw09_fixed.f k_) (zoetropelaw09_fixed.mono) (Nat.le_max_right 64 k) hk_))
    replace H : (if t205 = true then (none) else (some (t208 == (decide (a0_5 > 0))))) = some r := H
    have A9 := Aside0.mk hk_
    clear A90 hk_
    by_cases c10 : t205 = true
    · subst c10
      have H1 : (none) = some r := by rw [if_pos rfl] at H; exact H
      clear H
      have H := H1
      clear H1
      exact absurd H (by simp)
    · replace c10 := Bool.eq_false_iff.mpr c10
      subst c10
      have H1 : (some (t208 == (decide (a0_5 > 0)))) = some r := by rw [if_neg (show ¬ (false = true) by decide)] at H; exact H
      clear H
      have H := H1
      clear H1
      obtain rfl := Option.some.inj H
      go_enter Try.func6, Try.ntmps6
      try go_wp2_with (first | ((with_reducible refine gate_dst (N := 1) rfl ?_); refine box_event ?hg (N := 1) ?hd (cs := #[.int .u32 a0_0, .int .u32 a0_1, .bool a0_2, .int .i64 a0_3, .int .i64 a0_4, .int .u32 a0_5]) (t := 39) ?hr ?_; (case hd => rfl); (case hg => rfl); (case hr => first | (go_simp; done) | (go_simp; rfl)); intro gb191 hg w11 hbox hb; have n0_ := Aside0.mk (below_step (by repeat (first | (with_reducible first | exact HB.out | apply below_alloc | apply pw_below_drewN | apply below_drew1) | exact HB.out)) hb); have n1_ := Aside0.mk (hbox); have n2_ := Aside0.mk ((by rw [hg]; exact (below_size (by repeat (first | (with_reducible first | exact HB.out | apply below_alloc | apply pw_below_drewN | apply below_drew1) | exact HB.out))) : w.heap.size ≤ gb191)); have n3_ := Aside0.mk ((by rw [hg]; exact (below_size (by repeat (first | (with_reducible first | exact HB.out | apply below_alloc | apply pw_below_drewN | apply below_drew1) | exact HB.out))) : w.heap.size ≤ gb191)); clear HB; have HB := n0_; have BK191 := n1_; have GW191 := n2_; have GE191 := n3_; clear n0_ n1_ n2_ n3_; clear hb hbox hg))
      have n0_ := Aside0.mk (blk_drew BK191.out)
      have n1_ := Aside0.mk (below_drew1 HB.out)
      clear BK191
      clear HB
      have BK191 := n0_
      have HB := n1_
      clear n0_ n1_
      refine start_ (n := 7) (S := fun w' => w'.cell? ⟨gb191, 0, none⟩ = some (.int .u32 a0_0) ∧ w'.cell? ⟨gb191, 1, none⟩ = some (.int .u32 a0_1) ∧ w'.cell? ⟨gb191, 2, none⟩ = some (.bool a0_2) ∧ w'.cell? ⟨gb191, 3, none⟩ = some (.int .i64 a0_3) ∧ w'.cell? ⟨gb191, 4, none⟩ = some (.int .i64 a0_4) ∧ w'.cell? ⟨gb191, 5, none⟩ = some (.int .u32 a0_5)) (ds := []) #[false, false, false, false, false, false, false] (by kernel_rfl) rfl rfl ⟨(blk_cell BK191.out 0).trans rfl, (blk_cell BK191.out 1).trans rfl, (blk_cell BK191.out 2).trans rfl, (blk_cell BK191.out 3).trans rfl, (blk_cell BK191.out 4).trans rfl, (blk_cell BK191.out 5).trans rfl⟩ (fun hHeld => ?_)
      generalize w11.drew = w12 at BK191 HB hHeld ⊢
      refine pure_ (i := 0) (N := some 11) (v := ?_) (a' := ?_) #[true, false, false, false, false, false, false] rfl rfl (by kernel_rfl) (fun _ _ _ h => h) (Or.inl ⟨by rfl, ?_⟩) ?_ ?_
      rotate_left
      · intro w'
        go_simp
        with_reducible rfl
      rotate_left
      · simp only [Act.put, List.setIfInBounds_toArray, List.set_cons_zero, List.set_cons_succ, i64_w, i32_w]
        rfl
      refine pure_ (i := 2) (N := some 13) (v := ?_) (a' := ?_) #[true, false, true, false, false, false, false] rfl rfl (by kernel_rfl) (fun _ _ _ h => h) (Or.inl ⟨by rfl, ?_⟩) ?_ ?_
      rotate_left
      · intro w'
        go_simp
        with_reducible rfl
      rotate_left
      · simp only [Act.put, List.setIfInBounds_toArray, List.set_cons_zero, List.set_cons_succ, i64_w, i32_w]
        rfl
      refine take_ (i := 1) (N := some 12) (v := ?_) (a' := ?_) #[true, true, true, false, false, false, false] rfl rfl (by kernel_rfl) (fun _ _ _ h => h) (Or.inl ⟨by rfl, ?_⟩) hHeld ?_ ?_
      rotate_left
      · rintro w' ⟨s0, s1, s2, s3, s4, s5⟩
        go_simp
        with_reducible rfl
      rotate_left
      · simp only [Act.put, List.setIfInBounds_toArray, List.set_cons_zero, List.set_cons_succ, i64_w, i32_w]
        rfl
      refine take_ (i := 3) (N := some 14) (v := ?_) (a' := ?_) #[true, true, true, true, false, false, false] rfl rfl (by kernel_rfl) (fun _ _ _ h => h) (Or.inl ⟨by rfl, ?_⟩) hHeld ?_ ?_
      rotate_left
      · rintro w' ⟨s0, s1, s2, s3, s4, s5⟩
        go_simp
        with_reducible rfl
      rotate_left
      · simp only [Act.put, List.setIfInBounds_toArray, List.set_cons_zero, List.set_cons_succ, i64_w, i32_w]
        rfl
      refine one_ (i := 4) (N := some 3) #[true, true, true, true, true, false, false] rfl rfl (by kernel_rfl) (by decide) (fun K hK => ?_)
      refine box_step ?hg (N := 3) ?hd (cs := #[.int .u32 0, .int .u32 0, .bool false]) (t := 24) ?hr ?_; (case hd => rfl); (case hg => rfl); (case hr => first | (go_simp; done) | (go_simp; rfl))
      intro gb192 hg w13 hbox hb
      have n0_ := Aside0.mk (blk_below (g := gb191) (o := .cells #[.int .u32 a0_0, .int .u32 a0_1, .bool a0_2, .int .i64 a0_3, .int .i64 a0_4, .int .u32 a0_5] 39 (0, 0)) (by (with_reducible repeat (first | refine blk_drewN ?_ _ | refine blk_drew ?_ | refine blk_alloc ?_ _)); exact BK191.out) hb)
      have n1_ := Aside0.mk (below_step (by repeat (first | (with_reducible first | exact HB.out | apply below_alloc | apply pw_below_drewN | apply below_drew1 | refine below_set ?_ GE191.out) | exact HB.out)) hb)
      have n2_ := Aside0.mk (hbox)
      have n3_ := Aside0.mk ((by rw [hg]; exact (below_size (by repeat (first | (with_reducible first | exact HB.out | apply below_alloc | apply pw_below_drewN | apply below_drew1 | refine below_set ?_ GE191.out) | exact HB.out))) : w.heap.size ≤ gb192))
      have n4_ := Aside0.mk ((by rw [hg]; exact (below_size (by repeat (first | (with_reducible first | exact HB.out | apply below_alloc | apply pw_below_drewN | apply below_drew1 | refine below_set ?_ GE191.out) | exact HB.out))) : w.heap.size ≤ gb192))
      have n5_ := Aside0.mk ((by rw [hg]; exact Nat.ne_of_lt (blk_lt (g := gb191) (o := .cells #[.int .u32 a0_0, .int .u32 a0_1, .bool a0_2, .int .i64 a0_3, .int .i64 a0_4, .int .u32 a0_5] 39 (0, 0)) (by (with_reducible repeat (first | refine blk_drewN ?_ _ | refine blk_drew ?_ | refine blk_alloc ?_ _)); exact BK191.out)) : gb191 ≠ gb192))
      have n6_ := Aside0.mk ((by rw [hg]; exact Nat.ne_of_gt (blk_lt (g := gb191) (o := .cells #[.int .u32 a0_0, .int .u32 a0_1, .bool a0_2, .int .i64 a0_3, .int .i64 a0_4, .int .u32 a0_5] 39 (0, 0)) (by (with_reducible repeat (first | refine blk_drewN ?_ _ | refine blk_drew ?_ | refine blk_alloc ?_ _)); exact BK191.out)) : gb192 ≠ gb191))
      clear BK191
      clear HB
      have BK191 := n0_
      have HB := n1_
      have BK192 := n2_
      have GW192 := n3_
      have GE192 := n4_
      have NB191_192 := n5_
      have NB192_191 := n6_
      clear n0_ n1_ n2_ n3_ n4_ n5_ n6_
      clear hb hbox hg
      refine hK.out _ _ ⟨(blk_cell BK191.out 0).trans rfl, (blk_cell BK191.out 1).trans rfl, (blk_cell BK191.out 2).trans rfl, (blk_cell BK191.out 3).trans rfl, (blk_cell BK191.out 4).trans rfl, (blk_cell BK191.out 5).trans rfl⟩ (fun hHeld => ?_)
      clear hK K
      refine norm_ (a' := ?_) ?_ ?_
      rotate_left
      · show Act.put _ (some 3) _ = _
        simp only [Act.put, List.setIfInBounds_toArray, List.set_cons_zero, List.set_cons_succ, i64_w, i32_w]
        rfl
      refine one_ (i := 5) (N := none) #[true, true, true, true, true, true, false] rfl rfl (by kernel_rfl) (by decide) (fun K hK => ?_)
      have hs14 : w13.cell? ⟨gb192, 0, none⟩ = some (.int .u32 0) := (blk_cell BK192.out 0).trans rfl
      have hfs14 := blk_frozen BK192.out 0
      have hns14_0 := NB191_192.out
      have hms14_0 := NB192_191.out
      have hs15 : w13.cell? ⟨gb192, 1, none⟩ = some (.int .u32 0) := (blk_cell BK192.out 1).trans rfl
      have hfs15 := blk_frozen BK192.out 1
      have hns15_0 := NB191_192.out
      have hms15_0 := NB192_191.out
      have hs16 : w13.cell? ⟨gb192, 2, none⟩ = some (.bool false) := (blk_cell BK192.out 2).trans rfl
      have hfs16 := blk_frozen BK192.out 2
      have hns16_0 := NB191_192.out
      have hms16_0 := NB192_191.out
      refine skip_ (w1 := ?_) (by rfl) rfl ?_ ?_
      rotate_left
      · go_simp
        rfl
      refine hK.out _ _ ⟨((cell_far (p := ⟨gb192, _, none⟩) NB191_192.out _).trans (((cell_far (p := ⟨gb192, _, none⟩) NB191_192.out _).trans (((cell_far (p := ⟨gb192, _, none⟩) NB191_192.out _).trans (hHeld.1)))))), ((cell_far (p := ⟨gb192, _, none⟩) NB191_192.out _).trans (((cell_far (p := ⟨gb192, _, none⟩) NB191_192.out _).trans (((cell_far (p := ⟨gb192, _, none⟩) NB191_192.out _).trans (hHeld.2.1)))))), ((cell_far (p := ⟨gb192, _, none⟩) NB191_192.out _).trans (((cell_far (p := ⟨gb192, _, none⟩) NB191_192.out _).trans (((cell_far (p := ⟨gb192, _, none⟩) NB191_192.out _).trans (hHeld.2.2.1)))))), ((cell_far (p := ⟨gb192, _, none⟩) NB191_192.out _).trans (((cell_far (p := ⟨gb192, _, none⟩) NB191_192.out _).trans (((cell_far (p := ⟨gb192, _, none⟩) NB191_192.out _).trans (hHeld.2.2.2.1)))))), ((cell_far (p := ⟨gb192, _, none⟩) NB191_192.out _).trans (((cell_far (p := ⟨gb192, _, none⟩) NB191_192.out _).trans (((cell_far (p := ⟨gb192, _, none⟩) NB191_192.out _).trans (hHeld.2.2.2.2.1)))))), ((cell_far (p := ⟨gb192, _, none⟩) NB191_192.out _).trans (((cell_far (p := ⟨gb192, _, none⟩) NB191_192.out _).trans (((cell_far (p := ⟨gb192, _, none⟩) NB191_192.out _).trans (hHeld.2.2.2.2.2))))))⟩ (fun hHeld => ?_)
      clear hK K
      refine pure_ (i := 6) (N := some 4) (v := ?_) (a' := ?_) #[true, true, true, true, true, true, true] rfl rfl (by kernel_rfl) (fun _ _ _ h => h) (Or.inl ⟨by rfl, ?_⟩) ?_ ?_
      rotate_left
      · intro w'
        go_simp
        with_reducible rfl
      rotate_left
      · simp only [Act.put, List.setIfInBounds_toArray, List.set_cons_zero, List.set_cons_succ, i64_w, i32_w]
        rfl
      refine done_ (by kernel_rfl) ?_
      try go_wp2
      have n0_ : Aside0 ((((w13.setCell ⟨gb192, 0, none⟩ (.int .u32 a0_0)).setCell ⟨gb192, 1, none⟩ (.int .u32 a0_1)).setCell ⟨gb192, 2, none⟩ (.bool a0_2)).heap[gb191]? = some (.cells #[.int .u32 a0_0, .int .u32 a0_1, .bool a0_2, .int .i64 a0_3, .int .i64 a0_4, .int .u32 a0_5] 39 (0, 0))) := ⟨by (with_reducible repeat (first | refine blk_drewN ?_ _ | refine blk_drew ?_ | refine blk_alloc ?_ _)); refine blk_far ?_ NB191_192.out _; (with_reducible repeat (first | refine blk_drewN ?_ _ | refine blk_drew ?_ | refine blk_alloc ?_ _)); refine blk_far ?_ NB191_192.out _; (with_reducible repeat (first | refine blk_drewN ?_ _ | refine blk_drew ?_ | refine blk_alloc ?_ _)); refine blk_far ?_ NB191_192.out _; (with_reducible repeat (first | refine blk_drewN ?_ _ | refine blk_drew ?_ | refine blk_alloc ?_ _)); exact BK191.out⟩
      have n1_ : Aside0 ((((w13.setCell ⟨gb192, 0, none⟩ (.int .u32 a0_0)).setCell ⟨gb192, 1, none⟩ (.int .u32 a0_1)).setCell ⟨gb192, 2, none⟩ (.bool a0_2)).heap[gb192]? = some (.cells #[.int .u32 a0_0, .int .u32 a0_1, .bool a0_2] 24 (0, 0))) := ⟨by (with_reducible repeat (first | refine blk_drewN ?_ _ | refine blk_drew ?_ | refine blk_alloc ?_ _)); refine blk_put (cs := #[.int .u32 a0_0, .int .u32 a0_1, .bool false]) ?_ 2 _ (by first | rfl | simp [ByteArray.size_append]); (with_reducible repeat (first | refine blk_drewN ?_ _ | refine blk_drew ?_ | refine blk_alloc ?_ _)); refine blk_put (cs := #[.int .u32 a0_0, .int .u32 0, .bool false]) ?_ 1 _ (by first | rfl | simp [ByteArray.size_append]); (with_reducible repeat (first | refine blk_drewN ?_ _ | refine blk_drew ?_ | refine blk_alloc ?_ _)); refine blk_put (cs := #[.int .u32 0, .int .u32 0, .bool false]) ?_ 0 _ (by first | rfl | simp [ByteArray.size_append]); (with_reducible repeat (first | refine blk_drewN ?_ _ | refine blk_drew ?_ | refine blk_alloc ?_ _)); exact BK192.out⟩
      have n2_ : Aside0 (Below w.heap.size w (((w13.setCell ⟨gb192, 0, none⟩ (.int .u32 a0_0)).setCell ⟨gb192, 1, none⟩ (.int .u32 a0_1)).setCell ⟨gb192, 2, none⟩ (.bool a0_2))) := ⟨by repeat (first | (with_reducible first | exact HB.out | apply below_alloc | apply pw_below_drewN | apply below_drew1 | refine below_set ?_ GE191.out | refine below_set ?_ GE192.out) | exact HB.out)⟩
      (try clear BK191)
      (try clear BK192)
      (try clear HB)
      generalize (((w13.setCell ⟨gb192, 0, none⟩ (.int .u32 a0_0)).setCell ⟨gb192, 1, none⟩ (.int .u32 a0_1)).setCell ⟨gb192, 2, none⟩ (.bool a0_2)) = w17 at n0_ n1_ n2_ ⊢
      have BK191 := n0_
      have BK192 := n1_
      have HB := n2_
      clear n0_ n1_ n2_
      have n0_ := Aside0.mk (blk_drew BK191.out)
      have n1_ := Aside0.mk (blk_drew BK192.out)
      have n2_ := Aside0.mk (below_drew1 HB.out)
      clear BK191
      clear BK192
      clear HB
      have BK191 := n0_
      have BK192 := n1_
      have HB := n2_
      clear n0_ n1_ n2_
      refine start_ (n := 8) (S := fun w' => w'.cell? ⟨gb191, 0, none⟩ = some (.int .u32 a0_0) ∧ w'.cell? ⟨gb191, 1, none⟩ = some (.int .u32 a0_1) ∧ w'.cell? ⟨gb191, 2, none⟩ = some (.bool a0_2) ∧ w'.cell? ⟨gb191, 3, none⟩ = some (.int .i64 a0_3) ∧ w'.cell? ⟨gb191, 4, none⟩ = some (.int .i64 a0_4) ∧ w'.cell? ⟨gb191, 5, none⟩ = some (.int .u32 a0_5)) (ds := []) #[false, false, false, false, false, false, false, false] (by kernel_rfl) rfl rfl ⟨(blk_cell BK191.out 0).trans rfl, (blk_cell BK191.out 1).trans rfl, (blk_cell BK191.out 2).trans rfl, (blk_cell BK191.out 3).trans rfl, (blk_cell BK191.out 4).trans rfl, (blk_cell BK191.out 5).trans rfl⟩ (fun hHeld => ?_); refine with_tabW zoetropelaw09_TimerParts.tab2 zoetropelaw09_TimerParts.bits2 (fun HT_ HW_ => ?_)
      generalize w17.drew = w18 at BK191 BK192 HB hHeld ⊢
      refine pure_ (i := 0) (N := some 15) (v := ?_) (a' := ?_) #[true, false, false, false, false, false, false, false] rfl rfl (any_of HT_.out (by kernel_rfl)) (fun _ _ _ h => h) (Or.inl ⟨by rfl, ?_⟩) ?_ ?_
      rotate_left
      · intro w'
        go_simp
        with_reducible rfl
      rotate_left
      · simp only [Act.put, List.setIfInBounds_toArray, List.set_cons_zero, List.set_cons_succ, i64_w, i32_w]
        rfl
      refine pure_ (i := 3) (N := some 18) (v := ?_) (a' := ?_) #[true, false, false, true, false, false, false, false] rfl rfl (any_of HT_.out (by kernel_rfl)) (fun _ _ _ h => h) (Or.inl ⟨by rfl, ?_⟩) ?_ ?_
      rotate_left
      · intro w'
        go_simp
        with_reducible rfl
      rotate_left
      · simp only [Act.put, List.setIfInBounds_toArray, List.set_cons_zero, List.set_cons_succ, i64_w, i32_w]
        rfl
      refine take_ (i := 1) (N := some 16) (v := ?_) (a' := ?_) #[true, true, false, true, false, false, false, false] rfl rfl (take_ofW HT_.out HW_.out (by kernel_rfl)) (fun _ _ _ h => h) (Or.inl ⟨by rfl, ?_⟩) hHeld ?_ ?_
      rotate_left
      · rintro w' ⟨s0, s1, s2, s3, s4, s5⟩
        go_simp
        with_reducible rfl
      rotate_left
      · simp only [Act.put, List.setIfInBounds_toArray, List.set_cons_zero, List.set_cons_succ, i64_w, i32_w]
        rfl
      refine pure_ (i := 2) (N := some 17) (v := ?_) (a' := ?_) #[true, true, true, true, false, false, false, false] rfl rfl (any_of HT_.out (by kernel_rfl)) (fun _ _ _ h => h) (Or.inl ⟨by rfl, ?_⟩) ?_ ?_
      rotate_left
      · intro w'
        go_simp
        with_reducible rfl
      rotate_left
      · simp only [Act.put, List.setIfInBounds_toArray, List.set_cons_zero, List.set_cons_succ, i64_w, i32_w]
        rfl
      refine pure_ (i := 6) (N := some 5) (v := ?_) (a' := ?_) #[true, true, true, true, false, false, true, false] rfl rfl (any_of HT_.out (by kernel_rfl)) (fun _ _ _ h => h) (Or.inl ⟨by rfl, ?_⟩) ?_ ?_
      rotate_left
      · intro w'
        go_simp
        with_reducible rfl
      rotate_left
      · simp only [Act.put, List.setIfInBounds_toArray, List.set_cons_zero, List.set_cons_succ, i64_w, i32_w]
        rfl
      refine take_ (i := 4) (N := some 19) (v := ?_) (a' := ?_) #[true, true, true, true, true, false, true, false] rfl rfl (take_ofW HT_.out HW_.out (by kernel_rfl)) (fun _ _ _ h => h) (Or.inl ⟨by rfl, ?_⟩) hHeld ?_ ?_
      rotate_left
      · rintro w' ⟨s0, s1, s2, s3, s4, s5⟩
        go_simp
        with_reducible rfl
      rotate_left
      · simp only [Act.put, List.setIfInBounds_toArray, List.set_cons_zero, List.set_cons_succ, i64_w, i32_w]
        rfl
      refine pure_ (i := 5) (N := some 20) (v := ?_) (a' := ?_) #[true, true, true, true, true, true, true, false] rfl rfl (any_of HT_.out (by kernel_rfl)) (fun _ _ _ h => h) (Or.inl ⟨by rfl, ?_⟩) ?_ ?_
      rotate_left
      · intro w'
        go_simp
        with_reducible rfl
      rotate_left
      · simp only [Act.put, List.setIfInBounds_toArray, List.set_cons_zero, List.set_cons_succ, i64_w, i32_w]
        rfl
      refine pure_ (i := 7) (N := some 6) (v := ?_) (a' := ?_) #[true, true, true, true, true, true, true, true] rfl rfl (any_of HT_.out (by kernel_rfl)) (fun _ _ _ h => h) (Or.inl ⟨by rfl, ?_⟩) ?_ ?_
      rotate_left
      · intro w'
        go_simp
        with_reducible rfl
      rotate_left
      · simp only [Act.put, List.setIfInBounds_toArray, List.set_cons_zero, List.set_cons_succ, i64_w, i32_w]
        rfl
      refine done_ (done_of HT_.out (by kernel_rfl)) ?_
      try go_wp2
      have n0_ := Aside0.mk (blk_drew BK191.out)
      have n1_ := Aside0.mk (blk_drew BK192.out)
      have n2_ := Aside0.mk (below_drew1 HB.out)
      clear BK191
      clear BK192
      clear HB
      have BK191 := n0_
      have BK192 := n1_
      have HB := n2_
      clear n0_ n1_ n2_
      refine start_ (n := 11) (S := fun w' => w'.cell? ⟨gb192, 0, none⟩ = some (.int .u32 a0_0) ∧ w'.cell? ⟨gb192, 1, none⟩ = some (.int .u32 a0_1) ∧ w'.cell? ⟨gb192, 2, none⟩ = some (.bool a0_2)) (ds := []) #[false, false, false, false, false, false, false, false, false, false, false] (by kernel_rfl) rfl rfl ⟨(blk_cell BK192.out 0).trans rfl, (blk_cell BK192.out 1).trans rfl, (blk_cell BK192.out 2).trans rfl⟩ (fun hHeld => ?_); refine with_tabW zoetropelaw09_TimerParts.tab3 zoetropelaw09_TimerParts.bits3 (fun HT_ HW_ => ?_)
      generalize w18.drew = w19 at BK191 BK192 HB hHeld ⊢
      refine pure_ (i := 1) (N := some 22) (v := ?_) (a' := ?_) #[false, true, false, false, false, false, false, false, false, false, false] rfl rfl (any_of HT_.out (by kernel_rfl)) (fun _ _ _ h => h) (Or.inl ⟨by rfl, ?_⟩) ?_ ?_
      rotate_left
      · intro w'
        go_simp
        with_reducible rfl
      rotate_left
      · simp only [Act.put, List.setIfInBounds_toArray, List.set_cons_zero, List.set_cons_succ, i64_w, i32_w]
        rfl
      refine pure_ (i := 3) (N := some 24) (v := ?_) (a' := ?_) #[false, true, false, true, false, false, false, false, false, false, false] rfl rfl (any_of HT_.out (by kernel_rfl)) (fun _ _ _ h => h) (Or.inl ⟨by rfl, ?_⟩) ?_ ?_
      rotate_left
      · intro w'
        go_simp
        with_reducible rfl
      rotate_left
      · simp only [Act.put, List.setIfInBounds_toArray, List.set_cons_zero, List.set_cons_succ, i64_w, i32_w]
        rfl
      refine pure_ (i := 6) (N := some 27) (v := ?_) (a' := ?_) #[false, true, false, true, false, false, true, false, false, false, false] rfl rfl (any_of HT_.out (by kernel_rfl)) (fun _ _ _ h => h) (Or.inl ⟨by rfl, ?_⟩) ?_ ?_
      rotate_left
      · intro w'
        go_simp
        with_reducible rfl
      rotate_left
      · simp only [Act.put, List.setIfInBounds_toArray, List.set_cons_zero, List.set_cons_succ, i64_w, i32_w]
        rfl
      refine pure_ (i := 7) (N := some 28) (v := ?_) (a' := ?_) #[false, true, false, true, false, false, true, true, false, false, false] rfl rfl (any_of HT_.out (by kernel_rfl)) (fun _ _ _ h => h) (Or.inl ⟨by rfl, ?_⟩) ?_ ?_
      rotate_left
      · intro w'
        go_simp
        with_reducible rfl
      rotate_left
      · simp only [Act.put, List.setIfInBounds_toArray, List.set_cons_zero, List.set_cons_succ, i64_w, i32_w]
        rfl
      refine pure_ (i := 8) (N := some 29) (v := ?_) (a' := ?_) #[false, true, false, true, false, false, true, true, true, false, false] rfl rfl (any_of HT_.out (by kernel_rfl)) (fun _ _ _ h => h) (Or.inl ⟨by rfl, ?_⟩) ?_ ?_
      rotate_left
      · intro w'
        go_simp
        with_reducible rfl
      rotate_left
      · simp only [Act.put, List.setIfInBounds_toArray, List.set_cons_zero, List.set_cons_succ, i64_w, i32_w]
        rfl
      refine take_ (i := 0) (N := some 21) (v := ?_) (a' := ?_) #[true, true, false, true, false, false, true, true, true, false, false] rfl rfl (take_ofW HT_.out HW_.out (by kernel_rfl)) (fun _ _ _ h => h) (Or.inl ⟨by rfl, ?_⟩) hHeld ?_ ?_
      rotate_left
      · rintro w' ⟨s0, s1, s2⟩
        go_simp
        with_reducible rfl
      rotate_left
      · simp only [Act.put, List.setIfInBounds_toArray, List.set_cons_zero, List.set_cons_succ, i64_w, i32_w]
        rfl
      refine take_ (i := 5) (N := some 26) (v := ?_) (a' := ?_) #[true, true, false, true, false, true, true, true, true, false, false] rfl rfl (take_ofW HT_.out HW_.out (by kernel_rfl)) (fun _ _ _ h => h) (Or.inl ⟨by rfl, ?_⟩) hHeld ?_ ?_
      rotate_left
      · rintro w' ⟨s0, s1, s2⟩
        go_simp
        with_reducible rfl
      rotate_left
      · simp only [Act.put, List.setIfInBounds_toArray, List.set_cons_zero, List.set_cons_succ, i64_w, i32_w]
        rfl
      refine one_ (i := 2) (N := some 23) #[true, true, true, true, false, true, true, true, true, false, false] rfl rfl (one_of HT_.out (by kernel_rfl)) (by decide) (fun K hK => ?_)
      refine goes_ Try.func16 (by kernel_rfl) rfl #[.agg #[.int .u32 a0_0, .int .u32 a0_1, .bool a0_2], .int .i64 (Go.bits .and .i64 a0_3 274877906943)] (by rfl) rfl rfl (by (try simp only [List.map_toArray, List.map_cons, List.map_nil]); first | done | rfl | (simp only [List.length_drop, List.length_take]; rfl)) ?_
      with_reducible refine (timer_Ticks.calls k a0_0 a0_1 a0_2 (Go.bits .and .i64 a0_3 274877906943) t193 t194 t195 _ A2.out).mono ?_
      rintro e w20 ⟨rfl, hb⟩
      refine ⟨_, rfl, ?_⟩
      have n0_ := Aside0.mk (blk_below (g := gb191) (o := .cells #[.int .u32 a0_0, .int .u32 a0_1, .bool a0_2, .int .i64 a0_3, .int .i64 a0_4, .int .u32 a0_5] 39 (0, 0)) (by (with_reducible repeat (first | refine blk_drewN ?_ _ | refine blk_drew ?_ | refine blk_alloc ?_ _)); exact BK191.out) hb)
      have n1_ := Aside0.mk (blk_below (g := gb192) (o := .cells #[.int .u32 a0_0, .int .u32 a0_1, .bool a0_2] 24 (0, 0)) (by (with_reducible repeat (first | refine blk_drewN ?_ _ | refine blk_drew ?_ | refine blk_alloc ?_ _)); exact BK192.out) hb)
      have n2_ := Aside0.mk (below_step (by repeat (first | (with_reducible first | exact HB.out | apply below_alloc | apply pw_below_drewN | apply below_drew1 | refine below_set ?_ GE191.out | refine below_set ?_ GE192.out) | exact HB.out)) hb)
      clear BK191
      clear BK192
      clear HB
      have BK191 := n0_
      have BK192 := n1_
      have HB := n2_
      clear n0_ n1_ n2_
      (try clear hb)
      (try clear hb2)
      (try clear hk)
      (try clear hi)
      refine hK.out _ _ ⟨(blk_cell BK192.out 0).trans rfl, (blk_cell BK192.out 1).trans rfl, (blk_cell BK192.out 2).trans rfl⟩ (fun hHeld => ?_)
      clear hK K
      refine norm_ (a' := ?_) ?_ ?_
      rotate_left
      · show Act.put _ (some 23) _ = _
        simp only [Act.put, List.setIfInBounds_toArray, List.set_cons_zero, List.set_cons_succ, i64_w, i32_w]
        rfl
      refine one_ (i := 4) (N := some 25) #[true, true, true, true, true, true, true, true, true, false, false] rfl rfl (one_of HT_.out (by kernel_rfl)) (by decide) (fun K hK => ?_)
      refine goes_ Try.func16 (by kernel_rfl) rfl #[.agg #[.int .u32 t193, .int .u32 t194, .bool t195], .int .i64 (Go.bits .and .i64 a0_4 274877906943)] (by rfl) rfl rfl (by (try simp only [List.map_toArray, List.map_cons, List.map_nil]); first | done | rfl | (simp only [List.length_drop, List.length_take]; rfl)) ?_
      with_reducible refine (timer_Ticks.calls k t193 t194 t195 (Go.bits .and .i64 a0_4 274877906943) t196 t197 t198 _ A3.out).mono ?_
      rintro e w21 ⟨rfl, hb⟩
      refine ⟨_, rfl, ?_⟩
      have n0_ := Aside0.mk (blk_below (g := gb191) (o := .cells #[.int .u32 a0_0, .int .u32 a0_1, .bool a0_2, .int .i64 a0_3, .int .i64 a0_4, .int .u32 a0_5] 39 (0, 0)) (by (with_reducible repeat (first | refine blk_drewN ?_ _ | refine blk_drew ?_ | refine blk_alloc ?_ _)); exact BK191.out) hb)
      have n1_ := Aside0.mk (blk_below (g := gb192) (o := .cells #[.int .u32 a0_0, .int .u32 a0_1, .bool a0_2] 24 (0, 0)) (by (with_reducible repeat (first | refine blk_drewN ?_ _ | refine blk_drew ?_ | refine blk_alloc ?_ _)); exact BK192.out) hb)
      have n2_ := Aside0.mk (below_step (by repeat (first | (with_reducible first | exact HB.out | apply below_alloc | apply pw_below_drewN | apply below_drew1 | refine below_set ?_ GE191.out | refine below_set ?_ GE192.out) | exact HB.out)) hb)
      clear BK191
      clear BK192
      clear HB
      have BK191 := n0_
      have BK192 := n1_
      have HB := n2_
      clear n0_ n1_ n2_
      (try clear hb)
      (try clear hb2)
      (try clear hk)
      (try clear hi)
      refine hK.out _ _ ⟨(blk_cell BK192.out 0).trans rfl, (blk_cell BK192.out 1).trans rfl, (blk_cell BK192.out 2).trans rfl⟩ (fun hHeld => ?_)
      clear hK K
      refine norm_ (a' := ?_) ?_ ?_
      rotate_left
      · show Act.put _ (some 25) _ = _
        simp only [Act.put, List.setIfInBounds_toArray, List.set_cons_zero, List.set_cons_succ, i64_w, i32_w]
        rfl
      refine one_ (i := 9) (N := some 30) #[true, true, true, true, true, true, true, true, true, true, false] rfl rfl (one_of HT_.out (by kernel_rfl)) (by decide) (fun K hK => ?_)
      refine goes_ Try.func16 (by kernel_rfl) rfl #[.agg #[.int .u32 a0_0, .int .u32 a0_1, .bool a0_2], .int .i64 (wrap64 ((Go.bits .and .i64 a0_3 274877906943) + (Go.bits .and .i64 a0_4 274877906943)))] (by rfl) rfl rfl (by (try simp only [List.map_toArray, List.map_cons, List.map_nil]); first | done | rfl | (simp only [List.length_drop, List.length_take]; rfl)) ?_
      with_reducible refine (timer_Ticks.calls k a0_0 a0_1 a0_2 (wrap64 ((Go.bits .and .i64 a0_3 274877906943) + (Go.bits .and .i64 a0_4 274877906943))) t199 t200 t201 _ A4.out).mono ?_
      rintro e w22 ⟨rfl, hb⟩
      refine ⟨_, rfl, ?_⟩
      have n0_ := Aside0.mk (blk_below (g := gb191) (o := .cells #[.int .u32 a0_0, .int .u32 a0_1, .bool a0_2, .int .i64 a0_3, .int .i64 a0_4, .int .u32 a0_5] 39 (0, 0)) (by (with_reducible repeat (first | refine blk_drewN ?_ _ | refine blk_drew ?_ | refine blk_alloc ?_ _)); exact BK191.out) hb)
      have n1_ := Aside0.mk (blk_below (g := gb192) (o := .cells #[.int .u32 a0_0, .int .u32 a0_1, .bool a0_2] 24 (0, 0)) (by (with_reducible repeat (first | refine blk_drewN ?_ _ | refine blk_drew ?_ | refine blk_alloc ?_ _)); exact BK192.out) hb)
      have n2_ := Aside0.mk (below_step (by repeat (first | (with_reducible first | exact HB.out | apply below_alloc | apply pw_below_drewN | apply below_drew1 | refine below_set ?_ GE191.out | refine below_set ?_ GE192.out) | exact HB.out)) hb)
      clear BK191
      clear BK192
      clear HB
      have BK191 := n0_
      have BK192 := n1_
      have HB := n2_
      clear n0_ n1_ n2_
      (try clear hb)
      (try clear hb2)
      (try clear hk)
      (try clear hi)
      refine hK.out _ _ ⟨(blk_cell BK192.out 0).trans rfl, (blk_cell BK192.out 1).trans rfl, (blk_cell BK192.out 2).trans rfl⟩ (fun hHeld => ?_)
      clear hK K
      refine norm_ (a' := ?_) ?_ ?_
      rotate_left
      · show Act.put _ (some 30) _ = _
        simp only [Act.put, List.setIfInBounds_toArray, List.set_cons_zero, List.set_cons_succ, i64_w, i32_w]
        rfl
      refine pure_ (i := 10) (N := some 31) (v := ?_) (a' := ?_) #[true, true, true, true, true, true, true, true, true, true, true] rfl rfl (any_of HT_.out (by kernel_rfl)) (fun _ _ _ h => h) (Or.inl ⟨by rfl, ?_⟩) ?_ ?_
      rotate_left
      · intro w'
        go_simp
        with_reducible rfl
      rotate_left
      · simp only [Act.put, List.setIfInBounds_toArray, List.set_cons_zero, List.set_cons_succ, i64_w, i32_w]
        rfl
      refine done_ (done_of HT_.out (by kernel_rfl)) ?_
      try go_wp2_with (first | ((with_reducible refine gate_callee (f := 11) rfl ?_); refine goesL_ (some 35) rfl rfl Try.func11 (by kernel_rfl) rfl #[.agg #[.int .u32 0, .int .u32 0, .bool false], .int .u32 0, .int .u32 a0_5] rfl (by (try simp only [List.map_toArray, List.map_cons, List.map_nil]); first | done | rfl | (simp only [List.length_drop, List.length_take]; rfl)) ?_; (with_reducible refine (timer_Write.calls 0 0 false 0 a0_5 a0_5 a0_5 false 0 _ A6.out).mono ?_); rintro e w23 ⟨rfl, hb⟩; refine ⟨_, rfl, ?_⟩; have n0_ := Aside0.mk (blk_below (g := gb191) (o := .cells #[.int .u32 a0_0, .int .u32 a0_1, .bool a0_2, .int .i64 a0_3, .int .i64 a0_4, .int .u32 a0_5] 39 (0, 0)) (by (with_reducible repeat (first | refine blk_drewN ?_ _ | refine blk_drew ?_ | refine blk_alloc ?_ _)); exact BK191.out) hb); have n1_ := Aside0.mk (blk_below (g := gb192) (o := .cells #[.int .u32 a0_0, .int .u32 a0_1, .bool a0_2] 24 (0, 0)) (by (with_reducible repeat (first | refine blk_drewN ?_ _ | refine blk_drew ?_ | refine blk_alloc ?_ _)); exact BK192.out) hb); have n2_ := Aside0.mk (below_step (by repeat (first | (with_reducible first | exact HB.out | apply below_alloc | apply pw_below_drewN | apply below_drew1 | refine below_set ?_ GE191.out | refine below_set ?_ GE192.out) | exact HB.out)) hb); clear BK191; clear BK192; clear HB; have BK191 := n0_; have BK192 := n1_; have HB := n2_; clear n0_ n1_ n2_; (try clear hb); (try clear hb2); (try clear hk); (try clear hi)) | ((with_reducible refine gate_dst (N := 7) rfl ?_); refine box_event ?hg (N := 7) ?hd (cs := #[.int .u32 0, .int .u32 0, .bool false]) (t := 24) ?hr ?_; (case hd => rfl); (case hg => rfl); (case hr => first | (go_simp; done) | (go_simp; rfl)); intro gb202 hg w24 hbox hb; have n0_ := Aside0.mk (blk_below (g := gb191) (o := .cells #[.int .u32 a0_0, .int .u32 a0_1, .bool a0_2, .int .i64 a0_3, .int .i64 a0_4, .int .u32 a0_5] 39 (0, 0)) (by (with_reducible repeat (first | refine blk_drewN ?_ _ | refine blk_drew ?_ | refine blk_alloc ?_ _)); exact BK191.out) hb); have n1_ := Aside0.mk (blk_below (g := gb192) (o := .cells #[.int .u32 a0_0, .int .u32 a0_1, .bool a0_2] 24 (0, 0)) (by (with_reducible repeat (first | refine blk_drewN ?_ _ | refine blk_drew ?_ | refine blk_alloc ?_ _)); exact BK192.out) hb); have n2_ := Aside0.mk (below_step (by repeat (first | (with_reducible first | exact HB.out | apply below_alloc | apply pw_below_drewN | apply below_drew1 | refine below_set ?_ GE191.out | refine below_set ?_ GE192.out) | exact HB.out)) hb); have n3_ := Aside0.mk (hbox); have n4_ := Aside0.mk ((by rw [hg]; exact (below_size (by repeat (first | (with_reducible first | exact HB.out | apply below_alloc | apply pw_below_drewN | apply below_drew1 | refine below_set ?_ GE191.out | refine below_set ?_ GE192.out) | exact HB.out))) : w.heap.size ≤ gb202)); have n5_ := Aside0.mk ((by rw [hg]; exact (below_size (by repeat (first | (with_reducible first | exact HB.out | apply below_alloc | apply pw_below_drewN | apply below_drew1 | refine below_set ?_ GE191.out | refine below_set ?_ GE192.out) | exact HB.out))) : w.heap.size ≤ gb202)); have n6_ := Aside0.mk ((by rw [hg]; exact Nat.ne_of_lt (blk_lt (g := gb191) (o := .cells #[.int .u32 a0_0, .int .u32 a0_1, .bool a0_2, .int .i64 a0_3, .int .i64 a0_4, .int .u32 a0_5] 39 (0, 0)) (by (with_reducible repeat (first | refine blk_drewN ?_ _ | refine blk_drew ?_ | refine blk_alloc ?_ _)); exact BK191.out)) : gb191 ≠ gb202)); have n7_ := Aside0.mk ((by rw [hg]; exact Nat.ne_of_gt (blk_lt (g := gb191) (o := .cells #[.int .u32 a0_0, .int .u32 a0_1, .bool a0_2, .int .i64 a0_3, .int .i64 a0_4, .int .u32 a0_5] 39 (0, 0)) (by (with_reducible repeat (first | refine blk_drewN ?_ _ | refine blk_drew ?_ | refine blk_alloc ?_ _)); exact BK191.out)) : gb202 ≠ gb191)); have n8_ := Aside0.mk ((by rw [hg]; exact Nat.ne_of_lt (blk_lt (g := gb192) (o := .cells #[.int .u32 a0_0, .int .u32 a0_1, .bool a0_2] 24 (0, 0)) (by (with_reducible repeat (first | refine blk_drewN ?_ _ | refine blk_drew ?_ | refine blk_alloc ?_ _)); exact BK192.out)) : gb192 ≠ gb202)); have n9_ := Aside0.mk ((by rw [hg]; exact Nat.ne_of_gt (blk_lt (g := gb192) (o := .cells #[.int .u32 a0_0, .int .u32 a0_1, .bool a0_2] 24 (0, 0)) (by (with_reducible repeat (first | refine blk_drewN ?_ _ | refine blk_drew ?_ | refine blk_alloc ?_ _)); exact BK192.out)) : gb202 ≠ gb192)); clear BK191; clear BK192; clear HB; have BK191 := n0_; have BK192 := n1_; have HB := n2_; have BK202 := n3_; have GW202 := n4_; have GE202 := n5_; have NB191_202 := n6_; have NB202_191 := n7_; have NB192_202 := n8_; have NB202_192 := n9_; clear n0_ n1_ n2_ n3_ n4_ n5_ n6_ n7_ n8_ n9_; clear hb hbox hg; have hnb25 := NB202_191.out; have hnc25 := NB191_202.out; have hnb26 := NB202_192.out; have hnc26 := NB192_202.out; have hcz27_0 : w24.cell? ⟨gb202, 0, none⟩ = some (.int .u32 0) := (blk_cell BK202.out 0).trans rfl; have hcz27_1 : w24.cell? ⟨gb202, 1, none⟩ = some (.int .u32 0) := (blk_cell BK202.out 1).trans rfl; have hcz27_2 : w24.cell? ⟨gb202, 2, none⟩ = some (.bool false) := (blk_cell BK202.out 2).trans rfl; have hfz27_0 := blk_frozen BK202.out 0; have hfz27_1 := blk_frozen BK202.out 1; have hfz27_2 := blk_frozen BK202.out 2))
      have n0_ : Aside0 ((((w24.setCell ⟨gb202, 0, none⟩ (.int .u32 a0_5)).setCell ⟨gb202, 1, none⟩ (.int .u32 a0_5)).setCell ⟨gb202, 2, none⟩ (.bool false)).heap[gb191]? = some (.cells #[.int .u32 a0_0, .int .u32 a0_1, .bool a0_2, .int .i64 a0_3, .int .i64 a0_4, .int .u32 a0_5] 39 (0, 0))) := ⟨by (with_reducible repeat (first | refine blk_drewN ?_ _ | refine blk_drew ?_ | refine blk_alloc ?_ _)); refine blk_far ?_ NB191_202.out _; (with_reducible repeat (first | refine blk_drewN ?_ _ | refine blk_drew ?_ | refine blk_alloc ?_ _)); refine blk_far ?_ NB191_202.out _; (with_reducible repeat (first | refine blk_drewN ?_ _ | refine blk_drew ?_ | refine blk_alloc ?_ _)); refine blk_far ?_ NB191_202.out _; (with_reducible repeat (first | refine blk_drewN ?_ _ | refine blk_drew ?_ | refine blk_alloc ?_ _)); exact BK191.out⟩
      have n1_ : Aside0 ((((w24.setCell ⟨gb202, 0, none⟩ (.int .u32 a0_5)).setCell ⟨gb202, 1, none⟩ (.int .u32 a0_5)).setCell ⟨gb202, 2, none⟩ (.bool false)).heap[gb192]? = some (.cells #[.int .u32 a0_0, .int .u32 a0_1, .bool a0_2] 24 (0, 0))) := ⟨by (with_reducible repeat (first | refine blk_drewN ?_ _ | refine blk_drew ?_ | refine blk_alloc ?_ _)); refine blk_far ?_ NB192_202.out _; (with_reducible repeat (first | refine blk_drewN ?_ _ | refine blk_drew ?_ | refine blk_alloc ?_ _)); refine blk_far ?_ NB192_202.out _; (with_reducible repeat (first | refine blk_drewN ?_ _ | refine blk_drew ?_ | refine blk_alloc ?_ _)); refine blk_far ?_ NB192_202.out _; (with_reducible repeat (first | refine blk_drewN ?_ _ | refine blk_drew ?_ | refine blk_alloc ?_ _)); exact BK192.out⟩
      have n2_ : Aside0 ((((w24.setCell ⟨gb202, 0, none⟩ (.int .u32 a0_5)).setCell ⟨gb202, 1, none⟩ (.int .u32 a0_5)).setCell ⟨gb202, 2, none⟩ (.bool false)).heap[gb202]? = some (.cells #[.int .u32 a0_5, .int .u32 a0_5, .bool false] 24 (0, 0))) := ⟨by (with_reducible repeat (first | refine blk_drewN ?_ _ | refine blk_drew ?_ | refine blk_alloc ?_ _)); refine blk_put (cs := #[.int .u32 a0_5, .int .u32 a0_5, .bool false]) ?_ 2 _ (by first | rfl | simp [ByteArray.size_append]); (with_reducible repeat (first | refine blk_drewN ?_ _ | refine blk_drew ?_ | refine blk_alloc ?_ _)); refine blk_put (cs := #[.int .u32 a0_5, .int .u32 0, .bool false]) ?_ 1 _ (by first | rfl | simp [ByteArray.size_append]); (with_reducible repeat (first | refine blk_drewN ?_ _ | refine blk_drew ?_ | refine blk_alloc ?_ _)); refine blk_put (cs := #[.int .u32 0, .int .u32 0, .bool false]) ?_ 0 _ (by first | rfl | simp [ByteArray.size_append]); (with_reducible repeat (first | refine blk_drewN ?_ _ | refine blk_drew ?_ | refine blk_alloc ?_ _)); exact BK202.out⟩
      have n3_ : Aside0 (Below w.heap.size w (((w24.setCell ⟨gb202, 0, none⟩ (.int .u32 a0_5)).setCell ⟨gb202, 1, none⟩ (.int .u32 a0_5)).setCell ⟨gb202, 2, none⟩ (.bool false))) := ⟨by repeat (first | (with_reducible first | exact HB.out | apply below_alloc | apply pw_below_drewN | apply below_drew1 | refine below_set ?_ GE191.out | refine below_set ?_ GE192.out | refine below_set ?_ GE202.out) | exact HB.out)⟩
      (try clear BK191)
      (try clear BK192)
      (try clear BK202)
      (try clear HB)
      generalize (((w24.setCell ⟨gb202, 0, none⟩ (.int .u32 a0_5)).setCell ⟨gb202, 1, none⟩ (.int .u32 a0_5)).setCell ⟨gb202, 2, none⟩ (.bool false)) = w28 at n0_ n1_ n2_ n3_ ⊢
      have BK191 := n0_
      have BK192 := n1_
      have BK202 := n2_
      have HB := n3_
      clear n0_ n1_ n2_ n3_
      have n0_ := Aside0.mk (blk_drew BK191.out)
      have n1_ := Aside0.mk (blk_drew BK192.out)
      have n2_ := Aside0.mk (blk_drew BK202.out)
      have n3_ := Aside0.mk (below_drew1 HB.out)
      clear BK191
      clear BK192
      clear BK202
      clear HB
      have BK191 := n0_
      have BK192 := n1_
      have BK202 := n2_
      have HB := n3_
      clear n0_ n1_ n2_ n3_
      refine start_ (n := 13) (S := fun w' => w'.cell? ⟨gb202, 0, none⟩ = some (.int .u32 a0_5) ∧ w'.cell? ⟨gb202, 1, none⟩ = some (.int .u32 a0_5) ∧ w'.cell? ⟨gb202, 2, none⟩ = some (.bool false)) (ds := []) #[false, false, false, false, false, false, false, false, false, false, false, false, false] (by kernel_rfl) rfl rfl ⟨(blk_cell BK202.out 0).trans rfl, (blk_cell BK202.out 1).trans rfl, (blk_cell BK202.out 2).trans rfl⟩ (fun hHeld => ?_); refine with_tabW zoetropelaw09_TimerParts.tab8 zoetropelaw09_TimerParts.bits8 (fun HT_ HW_ => ?_)
      generalize w28.drew = w29 at BK191 BK192 BK202 HB hHeld ⊢
      refine pure_ (i := 1) (N := some 41) (v := ?_) (a' := ?_) #[false, true, false, false, false, false, false, false, false, false, false, false, false] rfl rfl (any_of HT_.out (by kernel_rfl)) (fun _ _ _ h => h) (Or.inl ⟨by rfl, ?_⟩) ?_ ?_
      rotate_left
      · intro w'
        go_simp
        with_reducible rfl
      rotate_left
      · simp only [Act.put, List.setIfInBounds_toArray, List.set_cons_zero, List.set_cons_succ, i64_w, i32_w]
        rfl
      refine pure_ (i := 2) (N := some 42) (v := ?_) (a' := ?_) #[false, true, true, false, false, false, false, false, false, false, false, false, false] rfl rfl (any_of HT_.out (by kernel_rfl)) (fun _ _ _ h => h) (Or.inl ⟨by rfl, ?_⟩) ?_ ?_
      rotate_left
      · intro w'
        go_simp
        with_reducible rfl
      rotate_left
      · simp only [Act.put, List.setIfInBounds_toArray, List.set_cons_zero, List.set_cons_succ, i64_w, i32_w]
        rfl
      refine pure_ (i := 3) (N := some 43) (v := ?_) (a' := ?_) #[false, true, true, true, false, false, false, false, false, false, false, false, false] rfl rfl (any_of HT_.out (by kernel_rfl)) (fun _ _ _ h => h) (Or.inl ⟨by rfl, ?_⟩) ?_ ?_
      rotate_left
      · intro w'
        go_simp
        with_reducible rfl
      rotate_left
      · simp only [Act.put, List.setIfInBounds_toArray, List.set_cons_zero, List.set_cons_succ, i64_w, i32_w]
        rfl
      refine pure_ (i := 6) (N := some 46) (v := ?_) (a' := ?_) #[false, true, true, true, false, false, true, false, false, false, false, false, false] rfl rfl (any_of HT_.out (by kernel_rfl)) (fun _ _ _ h => h) (Or.inl ⟨by rfl, ?_⟩) ?_ ?_
      rotate_left
      · intro w'
        go_simp
        with_reducible rfl
      rotate_left
      · simp only [Act.put, List.setIfInBounds_toArray, List.set_cons_zero, List.set_cons_succ, i64_w, i32_w]
        rfl
      refine pure_ (i := 7) (N := some 47) (v := ?_) (a' := ?_) #[false, true, true, true, false, false, true, true, false, false, false, false, false] rfl rfl (any_of HT_.out (by kernel_rfl)) (fun _ _ _ h => h) (Or.inl ⟨by rfl, ?_⟩) ?_ ?_
      rotate_left
      · intro w'
        go_simp
        with_reducible rfl
      rotate_left
      · simp only [Act.put, List.setIfInBounds_toArray, List.set_cons_zero, List.set_cons_succ, i64_w, i32_w]
        rfl
      refine take_ (i := 0) (N := some 40) (v := ?_) (a' := ?_) #[true, true, true, true, false, false, true, true, false, false, false, false, false] rfl rfl (take_ofW HT_.out HW_.out (by kernel_rfl)) (fun _ _ _ h => h) (Or.inl ⟨by rfl, ?_⟩) hHeld ?_ ?_
      rotate_left
      · rintro w' ⟨s0, s1, s2⟩
        go_simp
        with_reducible rfl
      rotate_left
      · simp only [Act.put, List.setIfInBounds_toArray, List.set_cons_zero, List.set_cons_succ, i64_w, i32_w]
        rfl
      refine take_ (i := 5) (N := some 45) (v := ?_) (a' := ?_) #[true, true, true, true, false, true, true, true, false, false, false, false, false] rfl rfl (take_ofW HT_.out HW_.out (by kernel_rfl)) (fun _ _ _ h => h) (Or.inl ⟨by rfl, ?_⟩) hHeld ?_ ?_
      rotate_left
      · rintro w' ⟨s0, s1, s2⟩
        go_simp
        with_reducible rfl
      rotate_left
      · simp only [Act.put, List.setIfInBounds_toArray, List.set_cons_zero, List.set_cons_succ, i64_w, i32_w]
        rfl
      refine join_ (σ := Nat × Nat) 2 #[true, true, true, true, true, true, true, true, true, true, true, false, false] (fun s_ => [(44, .agg #[.int .u32 t203, .int .u32 t204, .bool false]), (48, .agg #[.int .u32 t206, .int .u32 t207, .bool t208]), (9, .pointer (some ⟨s_.1, 0, none⟩)), (10, .pointer (some ⟨s_.2, 0, none⟩))]) (fun s_ w' => (w'.cell? ⟨gb202, 0, none⟩ = some (.int .u32 a0_5) ∧ w'.cell? ⟨gb202, 1, none⟩ = some (.int .u32 a0_5) ∧ w'.cell? ⟨gb202, 2, none⟩ = some (.bool false)) ∧ (w'.heap[gb191]? = some (.cells #[.int .u32 a0_0, .int .u32 a0_1, .bool a0_2, .int .i64 a0_3, .int .i64 a0_4, .int .u32 a0_5] 39 (0, 0))) ∧ (w'.heap[gb192]? = some (.cells #[.int .u32 a0_0, .int .u32 a0_1, .bool a0_2] 24 (0, 0))) ∧ (w'.heap[gb202]? = some (.cells #[.int .u32 a0_5, .int .u32 a0_5, .bool false] 24 (0, 0))) ∧ (w'.heap[s_.1]? = some (.cells #[.int .u32 0, .int .u32 0, .bool false] 24 (0, 0))) ∧ (w'.heap[s_.2]? = some (.cells #[.int .u32 0, .int .u32 0, .bool false] 24 (0, 0))) ∧ (w.heap.size ≤ s_.1) ∧ (w.heap.size ≤ s_.1) ∧ (gb191 ≠ s_.1) ∧ (s_.1 ≠ gb191) ∧ (gb192 ≠ s_.1) ∧ (s_.1 ≠ gb192) ∧ (gb202 ≠ s_.1) ∧ (s_.1 ≠ gb202) ∧ (s_.2 ≠ s_.1) ∧ (s_.1 ≠ s_.2) ∧ (w.heap.size ≤ s_.2) ∧ (w.heap.size ≤ s_.2) ∧ (gb191 ≠ s_.2) ∧ (s_.2 ≠ gb191) ∧ (gb192 ≠ s_.2) ∧ (s_.2 ≠ gb192) ∧ (gb202 ≠ s_.2) ∧ (s_.2 ≠ gb202) ∧ (Below w.heap.size w w')) ?_ ?_
      rotate_left
      · intro hJ4_8_9_10
        refine join_ (σ := Nat) 3 #[true, true, true, true, true, true, true, true, true, true, false, false, false] (fun s_ => [(44, .agg #[.int .u32 t203, .int .u32 t204, .bool false]), (48, .agg #[.int .u32 t206, .int .u32 t207, .bool t208]), (9, .pointer (some ⟨s_, 0, none⟩))]) (fun s_ w' => (w'.cell? ⟨gb202, 0, none⟩ = some (.int .u32 a0_5) ∧ w'.cell? ⟨gb202, 1, none⟩ = some (.int .u32 a0_5) ∧ w'.cell? ⟨gb202, 2, none⟩ = some (.bool false)) ∧ (w'.heap[gb191]? = some (.cells #[.int .u32 a0_0, .int .u32 a0_1, .bool a0_2, .int .i64 a0_3, .int .i64 a0_4, .int .u32 a0_5] 39 (0, 0))) ∧ (w'.heap[gb192]? = some (.cells #[.int .u32 a0_0, .int .u32 a0_1, .bool a0_2] 24 (0, 0))) ∧ (w'.heap[gb202]? = some (.cells #[.int .u32 a0_5, .int .u32 a0_5, .bool false] 24 (0, 0))) ∧ (w'.heap[s_]? = some (.cells #[.int .u32 0, .int .u32 0, .bool false] 24 (0, 0))) ∧ (w.heap.size ≤ s_) ∧ (w.heap.size ≤ s_) ∧ (gb191 ≠ s_) ∧ (s_ ≠ gb191) ∧ (gb192 ≠ s_) ∧ (s_ ≠ gb192) ∧ (gb202 ≠ s_) ∧ (s_ ≠ gb202) ∧ (Below w.heap.size w w')) ?_ ?_
        rotate_left
        · intro hJ4_8_9
          refine join_ (σ := Nat) 3 #[true, true, true, true, true, true, true, true, true, false, true, false, false] (fun s_ => [(44, .agg #[.int .u32 t203, .int .u32 t204, .bool false]), (48, .agg #[.int .u32 t206, .int .u32 t207, .bool t208]), (10, .pointer (some ⟨s_, 0, none⟩))]) (fun s_ w' => (w'.cell? ⟨gb202, 0, none⟩ = some (.int .u32 a0_5) ∧ w'.cell? ⟨gb202, 1, none⟩ = some (.int .u32 a0_5) ∧ w'.cell? ⟨gb202, 2, none⟩ = some (.bool false)) ∧ (w'.heap[gb191]? = some (.cells #[.int .u32 a0_0, .int .u32 a0_1, .bool a0_2, .int .i64 a0_3, .int .i64 a0_4, .int .u32 a0_5] 39 (0, 0))) ∧ (w'.heap[gb192]? = some (.cells #[.int .u32 a0_0, .int .u32 a0_1, .bool a0_2] 24 (0, 0))) ∧ (w'.heap[gb202]? = some (.cells #[.int .u32 a0_5, .int .u32 a0_5, .bool false] 24 (0, 0))) ∧ (w'.heap[s_]? = some (.cells #[.int .u32 0, .int .u32 0, .bool false] 24 (0, 0))) ∧ (w.heap.size ≤ s_) ∧ (w.heap.size ≤ s_) ∧ (gb191 ≠ s_) ∧ (s_ ≠ gb191) ∧ (gb192 ≠ s_) ∧ (s_ ≠ gb192) ∧ (gb202 ≠ s_) ∧ (s_ ≠ gb202) ∧ (Below w.heap.size w w')) ?_ ?_
          rotate_left
          · intro hJ4_8_10
            refine join_ (σ := Nat × Nat) 3 #[true, true, true, true, true, true, true, true, false, true, true, false, false] (fun s_ => [(44, .agg #[.int .u32 t203, .int .u32 t204, .bool false]), (9, .pointer (some ⟨s_.1, 0, none⟩)), (10, .pointer (some ⟨s_.2, 0, none⟩))]) (fun s_ w' => (w'.cell? ⟨gb202, 0, none⟩ = some (.int .u32 a0_5) ∧ w'.cell? ⟨gb202, 1, none⟩ = some (.int .u32 a0_5) ∧ w'.cell? ⟨gb202, 2, none⟩ = some (.bool false)) ∧ (w'.heap[gb191]? = some (.cells #[.int .u32 a0_0, .int .u32 a0_1, .bool a0_2, .int .i64 a0_3, .int .i64 a0_4, .int .u32 a0_5] 39 (0, 0))) ∧ (w'.heap[gb192]? = some (.cells #[.int .u32 a0_0, .int .u32 a0_1, .bool a0_2] 24 (0, 0))) ∧ (w'.heap[gb202]? = some (.cells #[.int .u32 a0_5, .int .u32 a0_5, .bool false] 24 (0, 0))) ∧ (w'.heap[s_.1]? = some (.cells #[.int .u32 0, .int .u32 0, .bool false] 24 (0, 0))) ∧ (w'.heap[s_.2]? = some (.cells #[.int .u32 0, .int .u32 0, .bool false] 24 (0, 0))) ∧ (w.heap.size ≤ s_.1) ∧ (w.heap.size ≤ s_.1) ∧ (gb191 ≠ s_.1) ∧ (s_.1 ≠ gb191) ∧ (gb192 ≠ s_.1) ∧ (s_.1 ≠ gb192) ∧ (gb202 ≠ s_.1) ∧ (s_.1 ≠ gb202) ∧ (s_.2 ≠ s_.1) ∧ (s_.1 ≠ s_.2) ∧ (w.heap.size ≤ s_.2) ∧ (w.heap.size ≤ s_.2) ∧ (gb191 ≠ s_.2) ∧ (s_.2 ≠ gb191) ∧ (gb192 ≠ s_.2) ∧ (s_.2 ≠ gb192) ∧ (gb202 ≠ s_.2) ∧ (s_.2 ≠ gb202) ∧ (Below w.heap.size w w')) ?_ ?_
            rotate_left
            · intro hJ4_9_10
              refine join_ (σ := Unit) 4 #[true, true, true, true, true, true, true, true, true, false, false, false, false] (fun s_ => [(44, .agg #[.int .u32 t203, .int .u32 t204, .bool false]), (48, .agg #[.int .u32 t206, .int .u32 t207, .bool t208])]) (fun s_ w' => (w'.cell? ⟨gb202, 0, none⟩ = some (.int .u32 a0_5) ∧ w'.cell? ⟨gb202, 1, none⟩ = some (.int .u32 a0_5) ∧ w'.cell? ⟨gb202, 2, none⟩ = some (.bool false)) ∧ (w'.heap[gb191]? = some (.cells #[.int .u32 a0_0, .int .u32 a0_1, .bool a0_2, .int .i64 a0_3, .int .i64 a0_4, .int .u32 a0_5] 39 (0, 0))) ∧ (w'.heap[gb192]? = some (.cells #[.int .u32 a0_0, .int .u32 a0_1, .bool a0_2] 24 (0, 0))) ∧ (w'.heap[gb202]? = some (.cells #[.int .u32 a0_5, .int .u32 a0_5, .bool false] 24 (0, 0))) ∧ (Below w.heap.size w w')) ?_ ?_
              rotate_left
              · intro hJ4_8
                refine join_ (σ := Nat) 4 #[true, true, true, true, true, true, true, true, false, true, false, false, false] (fun s_ => [(44, .agg #[.int .u32 t203, .int .u32 t204, .bool false]), (9, .pointer (some ⟨s_, 0, none⟩))]) (fun s_ w' => (w'.cell? ⟨gb202, 0, none⟩ = some (.int .u32 a0_5) ∧ w'.cell? ⟨gb202, 1, none⟩ = some (.int .u32 a0_5) ∧ w'.cell? ⟨gb202, 2, none⟩ = some (.bool false)) ∧ (w'.heap[gb191]? = some (.cells #[.int .u32 a0_0, .int .u32 a0_1, .bool a0_2, .int .i64 a0_3, .int .i64 a0_4, .int .u32 a0_5] 39 (0, 0))) ∧ (w'.heap[gb192]? = some (.cells #[.int .u32 a0_0, .int .u32 a0_1, .bool a0_2] 24 (0, 0))) ∧ (w'.heap[gb202]? = some (.cells #[.int .u32 a0_5, .int .u32 a0_5, .bool false] 24 (0, 0))) ∧ (w'.heap[s_]? = some (.cells #[.int .u32 0, .int .u32 0, .bool false] 24 (0, 0))) ∧ (w.heap.size ≤ s_) ∧ (w.heap.size ≤ s_) ∧ (gb191 ≠ s_) ∧ (s_ ≠ gb191) ∧ (gb192 ≠ s_) ∧ (s_ ≠ gb192) ∧ (gb202 ≠ s_) ∧ (s_ ≠ gb202) ∧ (Below w.heap.size w w')) ?_ ?_
                rotate_left
                · intro hJ4_9
                  refine join_ (σ := Nat) 4 #[true, true, true, true, true, true, true, true, false, false, true, false, false] (fun s_ => [(44, .agg #[.int .u32 t203, .int .u32 t204, .bool false]), (10, .pointer (some ⟨s_, 0, none⟩))]) (fun s_ w' => (w'.cell? ⟨gb202, 0, none⟩ = some (.int .u32 a0_5) ∧ w'.cell? ⟨gb202, 1, none⟩ = some (.int .u32 a0_5) ∧ w'.cell? ⟨gb202, 2, none⟩ = some (.bool false)) ∧ (w'.heap[gb191]? = some (.cells #[.int .u32 a0_0, .int .u32 a0_1, .bool a0_2, .int .i64 a0_3, .int .i64 a0_4, .int .u32 a0_5] 39 (0, 0))) ∧ (w'.heap[gb192]? = some (.cells #[.int .u32 a0_0, .int .u32 a0_1, .bool a0_2] 24 (0, 0))) ∧ (w'.heap[gb202]? = some (.cells #[.int .u32 a0_5, .int .u32 a0_5, .bool false] 24 (0, 0))) ∧ (w'.heap[s_]? = some (.cells #[.int .u32 0, .int .u32 0, .bool false] 24 (0, 0))) ∧ (w.heap.size ≤ s_) ∧ (w.heap.size ≤ s_) ∧ (gb191 ≠ s_) ∧ (s_ ≠ gb191) ∧ (gb192 ≠ s_) ∧ (s_ ≠ gb192) ∧ (gb202 ≠ s_) ∧ (s_ ≠ gb202) ∧ (Below w.heap.size w w')) ?_ ?_
                  rotate_left
                  · intro hJ4_10
                    refine join_ (σ := Nat × Nat) 4 #[true, true, true, true, false, true, true, true, false, true, true, false, false] (fun s_ => [(9, .pointer (some ⟨s_.1, 0, none⟩)), (10, .pointer (some ⟨s_.2, 0, none⟩))]) (fun s_ w' => (w'.cell? ⟨gb202, 0, none⟩ = some (.int .u32 a0_5) ∧ w'.cell? ⟨gb202, 1, none⟩ = some (.int .u32 a0_5) ∧ w'.cell? ⟨gb202, 2, none⟩ = some (.bool false)) ∧ (w'.heap[gb191]? = some (.cells #[.int .u32 a0_0, .int .u32 a0_1, .bool a0_2, .int .i64 a0_3, .int .i64 a0_4, .int .u32 a0_5] 39 (0, 0))) ∧ (w'.heap[gb192]? = some (.cells #[.int .u32 a0_0, .int .u32 a0_1, .bool a0_2] 24 (0, 0))) ∧ (w'.heap[gb202]? = some (.cells #[.int .u32 a0_5, .int .u32 a0_5, .bool false] 24 (0, 0))) ∧ (w'.heap[s_.1]? = some (.cells #[.int .u32 0, .int .u32 0, .bool false] 24 (0, 0))) ∧ (w'.heap[s_.2]? = some (.cells #[.int .u32 0, .int .u32 0, .bool false] 24 (0, 0))) ∧ (w.heap.size ≤ s_.1) ∧ (w.heap.size ≤ s_.1) ∧ (gb191 ≠ s_.1) ∧ (s_.1 ≠ gb191) ∧ (gb192 ≠ s_.1) ∧ (s_.1 ≠ gb192) ∧ (gb202 ≠ s_.1) ∧ (s_.1 ≠ gb202) ∧ (s_.2 ≠ s_.1) ∧ (s_.1 ≠ s_.2) ∧ (w.heap.size ≤ s_.2) ∧ (w.heap.size ≤ s_.2) ∧ (gb191 ≠ s_.2) ∧ (s_.2 ≠ gb191) ∧ (gb192 ≠ s_.2) ∧ (s_.2 ≠ gb192) ∧ (gb202 ≠ s_.2) ∧ (s_.2 ≠ gb202) ∧ (Below w.heap.size w w')) ?_ ?_
                    rotate_left
                    · intro hJ9_10
                      refine join_ (σ := Unit) 5 #[true, true, true, true, true, true, true, true, false, false, false, false, false] (fun s_ => [(44, .agg #[.int .u32 t203, .int .u32 t204, .bool false])]) (fun s_ w' => (w'.cell? ⟨gb202, 0, none⟩ = some (.int .u32 a0_5) ∧ w'.cell? ⟨gb202, 1, none⟩ = some (.int .u32 a0_5) ∧ w'.cell? ⟨gb202, 2, none⟩ = some (.bool false)) ∧ (w'.heap[gb191]? = some (.cells #[.int .u32 a0_0, .int .u32 a0_1, .bool a0_2, .int .i64 a0_3, .int .i64 a0_4, .int .u32 a0_5] 39 (0, 0))) ∧ (w'.heap[gb192]? = some (.cells #[.int .u32 a0_0, .int .u32 a0_1, .bool a0_2] 24 (0, 0))) ∧ (w'.heap[gb202]? = some (.cells #[.int .u32 a0_5, .int .u32 a0_5, .bool false] 24 (0, 0))) ∧ (Below w.heap.size w w')) ?_ ?_
                      rotate_left
                      · intro hJ4
                        refine join_ (σ := Nat) 5 #[true, true, true, true, false, true, true, true, false, true, false, false, false] (fun s_ => [(9, .pointer (some ⟨s_, 0, none⟩))]) (fun s_ w' => (w'.cell? ⟨gb202, 0, none⟩ = some (.int .u32 a0_5) ∧ w'.cell? ⟨gb202, 1, none⟩ = some (.int .u32 a0_5) ∧ w'.cell? ⟨gb202, 2, none⟩ = some (.bool false)) ∧ (w'.heap[gb191]? = some (.cells #[.int .u32 a0_0, .int .u32 a0_1, .bool a0_2, .int .i64 a0_3, .int .i64 a0_4, .int .u32 a0_5] 39 (0, 0))) ∧ (w'.heap[gb192]? = some (.cells #[.int .u32 a0_0, .int .u32 a0_1, .bool a0_2] 24 (0, 0))) ∧ (w'.heap[gb202]? = some (.cells #[.int .u32 a0_5, .int .u32 a0_5, .bool false] 24 (0, 0))) ∧ (w'.heap[s_]? = some (.cells #[.int .u32 0, .int .u32 0, .bool false] 24 (0, 0))) ∧ (w.heap.size ≤ s_) ∧ (w.heap.size ≤ s_) ∧ (gb191 ≠ s_) ∧ (s_ ≠ gb191) ∧ (gb192 ≠ s_) ∧ (s_ ≠ gb192) ∧ (gb202 ≠ s_) ∧ (s_ ≠ gb202) ∧ (Below w.heap.size w w')) ?_ ?_
                        rotate_left
                        · intro hJ9
                          refine join_ (σ := Nat) 5 #[true, true, true, true, false, true, true, true, false, false, true, false, false] (fun s_ => [(10, .pointer (some ⟨s_, 0, none⟩))]) (fun s_ w' => (w'.cell? ⟨gb202, 0, none⟩ = some (.int .u32 a0_5) ∧ w'.cell? ⟨gb202, 1, none⟩ = some (.int .u32 a0_5) ∧ w'.cell? ⟨gb202, 2, none⟩ = some (.bool false)) ∧ (w'.heap[gb191]? = some (.cells #[.int .u32 a0_0, .int .u32 a0_1, .bool a0_2, .int .i64 a0_3, .int .i64 a0_4, .int .u32 a0_5] 39 (0, 0))) ∧ (w'.heap[gb192]? = some (.cells #[.int .u32 a0_0, .int .u32 a0_1, .bool a0_2] 24 (0, 0))) ∧ (w'.heap[gb202]? = some (.cells #[.int .u32 a0_5, .int .u32 a0_5, .bool false] 24 (0, 0))) ∧ (w'.heap[s_]? = some (.cells #[.int .u32 0, .int .u32 0, .bool false] 24 (0, 0))) ∧ (w.heap.size ≤ s_) ∧ (w.heap.size ≤ s_) ∧ (gb191 ≠ s_) ∧ (s_ ≠ gb191) ∧ (gb192 ≠ s_) ∧ (s_ ≠ gb192) ∧ (gb202 ≠ s_) ∧ (s_ ≠ gb202) ∧ (Below w.heap.size w w')) ?_ ?_
                          rotate_left
                          · intro hJ10
                            refine three_ (i := 4) (j := 9) (k := 10) (Ni := some 44) (Nj := some 9) (Nk := some 10) #[true, true, true, true, true, true, true, true, false, false, false, false, false] #[true, true, true, true, false, true, true, true, false, true, false, false, false] #[true, true, true, true, false, true, true, true, false, false, true, false, false] rfl rfl rfl rfl rfl rfl (three_of HT_.out (by kernel_rfl)) (by decide) (by decide) (by decide) (fun K hK => ?_) (fun K hK => ?_) (fun K hK => ?_)
                            · skip
                              refine goes_ Try.func16 (by kernel_rfl) rfl #[.agg #[.int .u32 a0_5, .int .u32 a0_5, .bool false], .int .i64 (wrap64 ((wrap64 (a0_5)) - 1))] (by rfl) rfl rfl (by (try simp only [List.map_toArray, List.map_cons, List.map_nil]); first | done | rfl | (simp only [List.length_drop, List.length_take]; rfl)) ?_
                              with_reducible refine (timer_Ticks.calls k a0_5 a0_5 false (wrap64 ((wrap64 (a0_5)) - 1)) t203 t204 false _ A7.out).mono ?_
                              rintro e w30 ⟨rfl, hb⟩
                              refine ⟨_, rfl, ?_⟩
                              have n0_ := Aside0.mk (blk_below (g := gb191) (o := .cells #[.int .u32 a0_0, .int .u32 a0_1, .bool a0_2, .int .i64 a0_3, .int .i64 a0_4, .int .u32 a0_5] 39 (0, 0)) (by (with_reducible repeat (first | refine blk_drewN ?_ _ | refine blk_drew ?_ | refine blk_alloc ?_ _)); exact BK191.out) hb)
                              have n1_ := Aside0.mk (blk_below (g := gb192) (o := .cells #[.int .u32 a0_0, .int .u32 a0_1, .bool a0_2] 24 (0, 0)) (by (with_reducible repeat (first | refine blk_drewN ?_ _ | refine blk_drew ?_ | refine blk_alloc ?_ _)); exact BK192.out) hb)
                              have n2_ := Aside0.mk (blk_below (g := gb202) (o := .cells #[.int .u32 a0_5, .int .u32 a0_5, .bool false] 24 (0, 0)) (by (with_reducible repeat (first | refine blk_drewN ?_ _ | refine blk_drew ?_ | refine blk_alloc ?_ _)); exact BK202.out) hb)
                              have n3_ := Aside0.mk (below_step (by repeat (first | (with_reducible first | exact HB.out | apply below_alloc | apply pw_below_drewN | apply below_drew1 | refine below_set ?_ GE191.out | refine below_set ?_ GE192.out | refine below_set ?_ GE202.out) | exact HB.out)) hb)
                              clear BK191
                              clear BK192
                              clear BK202
                              clear HB
                              have BK191 := n0_
                              have BK192 := n1_
                              have BK202 := n2_
                              have HB := n3_
                              clear n0_ n1_ n2_ n3_
                              (try clear hb)
                              (try clear hb2)
                              (try clear hk)
                              (try clear hi)
                              refine hK.out _ _ ⟨(blk_cell BK202.out 0).trans rfl, (blk_cell BK202.out 1).trans rfl, (blk_cell BK202.out 2).trans rfl⟩ (fun hHeld => ?_)
                              clear hK K
                              refine norm_ (a' := ?_) ?_ ?_
                              rotate_left
                              · show Act.put _ (some 44) _ = _
                                simp only [Act.put, List.setIfInBounds_toArray, List.set_cons_zero, List.set_cons_succ, i64_w, i32_w]
                                rfl
                              exact norm_ (by first | (simp only [putAll, Act.put, List.setIfInBounds_toArray, List.set_cons_zero, List.set_cons_succ]; done) | (simp only [putAll, Act.put, List.setIfInBounds_toArray, List.set_cons_zero, List.set_cons_succ]; rfl)) (hJ4 () _ ⟨hHeld, (by (with_reducible repeat (first | refine blk_drewN ?_ _ | refine blk_drew ?_ | refine blk_alloc ?_ _)); exact BK191.out), (by (with_reducible repeat (first | refine blk_drewN ?_ _ | refine blk_drew ?_ | refine blk_alloc ?_ _)); exact BK192.out), (by (with_reducible repeat (first | refine blk_drewN ?_ _ | refine blk_drew ?_ | refine blk_alloc ?_ _)); exact BK202.out), (by repeat (first | (with_reducible first | exact HB.out | apply below_alloc | apply pw_below_drewN | apply below_drew1 | refine below_set ?_ GE191.out | refine below_set ?_ GE192.out | refine below_set ?_ GE202.out) | exact HB.out))⟩)
                            · skip
                              refine box_step ?hg (N := 9) ?hd (cs := #[.int .u32 0, .int .u32 0, .bool false]) (t := 24) ?hr ?_; (case hd => rfl); (case hg => rfl); (case hr => first | (go_simp; done) | (go_simp; rfl))
                              intro gb209 hg w30 hbox hb
                              have n0_ := Aside0.mk (blk_below (g := gb191) (o := .cells #[.int .u32 a0_0, .int .u32 a0_1, .bool a0_2, .int .i64 a0_3, .int .i64 a0_4, .int .u32 a0_5] 39 (0, 0)) (by (with_reducible repeat (first | refine blk_drewN ?_ _ | refine blk_drew ?_ | refine blk_alloc ?_ _)); exact BK191.out) hb)
                              have n1_ := Aside0.mk (blk_below (g := gb192) (o := .cells #[.int .u32 a0_0, .int .u32 a0_1, .bool a0_2] 24 (0, 0)) (by (with_reducible repeat (first | refine blk_drewN ?_ _ | refine blk_drew ?_ | refine blk_alloc ?_ _)); exact BK192.out) hb)
                              have n2_ := Aside0.mk (blk_below (g := gb202) (o := .cells #[.int .u32 a0_5, .int .u32 a0_5, .bool false] 24 (0, 0)) (by (with_reducible repeat (first | refine blk_drewN ?_ _ | refine blk_drew ?_ | refine blk_alloc ?_ _)); exact BK202.out) hb)
                              have n3_ := Aside0.mk (below_step (by repeat (first | (with_reducible first | exact HB.out | apply below_alloc | apply pw_below_drewN | apply below_drew1 | refine below_set ?_ GE191.out | refine below_set ?_ GE192.out | refine below_set ?_ GE202.out) | exact HB.out)) hb)
                              have n4_ := Aside0.mk (hbox)
                              have n5_ := Aside0.mk ((by rw [hg]; exact (below_size (by repeat (first | (with_reducible first | exact HB.out | apply below_alloc | apply pw_below_drewN | apply below_drew1 | refine below_set ?_ GE191.out | refine below_set ?_ GE192.out | refine below_set ?_ GE202.out) | exact HB.out))) : w.heap.size ≤ gb209))
                              have n6_ := Aside0.mk ((by rw [hg]; exact (below_size (by repeat (first | (with_reducible first | exact HB.out | apply below_alloc | apply pw_below_drewN | apply below_drew1 | refine below_set ?_ GE191.out | refine below_set ?_ GE192.out | refine below_set ?_ GE202.out) | exact HB.out))) : w.heap.size ≤ gb209))
                              have n7_ := Aside0.mk ((by rw [hg]; exact Nat.ne_of_lt (blk_lt (g := gb191) (o := .cells #[.int .u32 a0_0, .int .u32 a0_1, .bool a0_2, .int .i64 a0_3, .int .i64 a0_4, .int .u32 a0_5] 39 (0, 0)) (by (with_reducible repeat (first | refine blk_drewN ?_ _ | refine blk_drew ?_ | refine blk_alloc ?_ _)); exact BK191.out)) : gb191 ≠ gb209))
                              have n8_ := Aside0.mk ((by rw [hg]; exact Nat.ne_of_gt (blk_lt (g := gb191) (o := .cells #[.int .u32 a0_0, .int .u32 a0_1, .bool a0_2, .int .i64 a0_3, .int .i64 a0_4, .int .u32 a0_5] 39 (0, 0)) (by (with_reducible repeat (first | refine blk_drewN ?_ _ | refine blk_drew ?_ | refine blk_alloc ?_ _)); exact BK191.out)) : gb209 ≠ gb191))
                              have n9_ := Aside0.mk ((by rw [hg]; exact Nat.ne_of_lt (blk_lt (g := gb192) (o := .cells #[.int .u32 a0_0, .int .u32 a0_1, .bool a0_2] 24 (0, 0)) (by (with_reducible repeat (first | refine blk_drewN ?_ _ | refine blk_drew ?_ | refine blk_alloc ?_ _)); exact BK192.out)) : gb192 ≠ gb209))
                              have n10_ := Aside0.mk ((by rw [hg]; exact Nat.ne_of_gt (blk_lt (g := gb192) (o := .cells #[.int .u32 a0_0, .int .u32 a0_1, .bool a0_2] 24 (0, 0)) (by (with_reducible repeat (first | refine blk_drewN ?_ _ | refine blk_drew ?_ | refine blk_alloc ?_ _)); exact BK192.out)) : gb209 ≠ gb192))
                              have n11_ := Aside0.mk ((by rw [hg]; exact Nat.ne_of_lt (blk_lt (g := gb202) (o := .cells #[.int .u32 a0_5, .int .u32 a0_5, .bool false] 24 (0, 0)) (by (with_reducible repeat (first | refine blk_drewN ?_ _ | refine blk_drew ?_ | refine blk_alloc ?_ _)); exact BK202.out)) : gb202 ≠ gb209))
                              have n12_ := Aside0.mk ((by rw [hg]; exact Nat.ne_of_gt (blk_lt (g := gb202) (o := .cells #[.int .u32 a0_5, .int .u32 a0_5, .bool false] 24 (0, 0)) (by (with_reducible repeat (first | refine blk_drewN ?_ _ | refine blk_drew ?_ | refine blk_alloc ?_ _)); exact BK202.out)) : gb209 ≠ gb202))
                              clear BK191
                              clear BK192
                              clear BK202
                              clear HB
                              have BK191 := n0_
                              have BK192 := n1_
                              have BK202 := n2_
                              have HB := n3_
                              have BK209 := n4_
                              have GW209 := n5_
                              have GE209 := n6_
                              have NB191_209 := n7_
                              have NB209_191 := n8_
                              have NB192_209 := n9_
                              have NB209_192 := n10_
                              have NB202_209 := n11_
                              have NB209_202 := n12_
                              clear n0_ n1_ n2_ n3_ n4_ n5_ n6_ n7_ n8_ n9_ n10_ n11_ n12_
                              clear hb hbox hg
                              refine hK.out _ _ ⟨(blk_cell BK202.out 0).trans rfl, (blk_cell BK202.out 1).trans rfl, (blk_cell BK202.out 2).trans rfl⟩ (fun hHeld => ?_)
                              clear hK K
                              refine norm_ (a' := ?_) ?_ ?_
                              rotate_left
                              · show Act.put _ (some 9) _ = _
                                simp only [Act.put, List.setIfInBounds_toArray, List.set_cons_zero, List.set_cons_succ, i64_w, i32_w]
                                rfl
                              exact norm_ (by first | (simp only [putAll, Act.put, List.setIfInBounds_toArray, List.set_cons_zero, List.set_cons_succ]; done) | (simp only [putAll, Act.put, List.setIfInBounds_toArray, List.set_cons_zero, List.set_cons_succ]; rfl)) (hJ9 (gb209) _ ⟨hHeld, (by (with_reducible repeat (first | refine blk_drewN ?_ _ | refine blk_drew ?_ | refine blk_alloc ?_ _)); exact BK191.out), (by (with_reducible repeat (first | refine blk_drewN ?_ _ | refine blk_drew ?_ | refine blk_alloc ?_ _)); exact BK192.out), (by (with_reducible repeat (first | refine blk_drewN ?_ _ | refine blk_drew ?_ | refine blk_alloc ?_ _)); exact BK202.out), (by (with_reducible repeat (first | refine blk_drewN ?_ _ | refine blk_drew ?_ | refine blk_alloc ?_ _)); exact BK209.out), GW209.out, GE209.out, NB191_209.out, NB209_191.out, NB192_209.out, NB209_192.out, NB202_209.out, NB209_202.out, (by repeat (first | (with_reducible first | exact HB.out | apply below_alloc | apply pw_below_drewN | apply below_drew1 | refine below_set ?_ GE191.out | refine below_set ?_ GE192.out | refine below_set ?_ GE202.out | refine below_set ?_ GE209.out) | exact HB.out))⟩)
                            · skip
                              refine box_step ?hg (N := 10) ?hd (cs := #[.int .u32 0, .int .u32 0, .bool false]) (t := 24) ?hr ?_; (case hd => rfl); (case hg => rfl); (case hr => first | (go_simp; done) | (go_simp; rfl))
                              intro gb210 hg w30 hbox hb
                              have n0_ := Aside0.mk (blk_below (g := gb191) (o := .cells #[.int .u32 a0_0, .int .u32 a0_1, .bool a0_2, .int .i64 a0_3, .int .i64 a0_4, .int .u32 a0_5] 39 (0, 0)) (by (with_reducible repeat (first | refine blk_drewN ?_ _ | refine blk_drew ?_ | refine blk_alloc ?_ _)); exact BK191.out) hb)
                              have n1_ := Aside0.mk (blk_below (g := gb192) (o := .cells #[.int .u32 a0_0, .int .u32 a0_1, .bool a0_2] 24 (0, 0)) (by (with_reducible repeat (first | refine blk_drewN ?_ _ | refine blk_drew ?_ | refine blk_alloc ?_ _)); exact BK192.out) hb)
                              have n2_ := Aside0.mk (blk_below (g := gb202) (o := .cells #[.int .u32 a0_5, .int .u32 a0_5, .bool false] 24 (0, 0)) (by (with_reducible repeat (first | refine blk_drewN ?_ _ | refine blk_drew ?_ | refine blk_alloc ?_ _)); exact BK202.out) hb)
                              have n3_ := Aside0.mk (below_step (by repeat (first | (with_reducible first | exact HB.out | apply below_alloc | apply pw_below_drewN | apply below_drew1 | refine below_set ?_ GE191.out | refine below_set ?_ GE192.out | refine below_set ?_ GE202.out) | exact HB.out)) hb)
                              have n4_ := Aside0.mk (hbox)
                              have n5_ := Aside0.mk ((by rw [hg]; exact (below_size (by repeat (first | (with_reducible first | exact HB.out | apply below_alloc | apply pw_below_drewN | apply below_drew1 | refine below_set ?_ GE191.out | refine below_set ?_ GE192.out | refine below_set ?_ GE202.out) | exact HB.out))) : w.heap.size ≤ gb210))
                              have n6_ := Aside0.mk ((by rw [hg]; exact (below_size (by repeat (first | (with_reducible first | exact HB.out | apply below_alloc | apply pw_below_drewN | apply below_drew1 | refine below_set ?_ GE191.out | refine below_set ?_ GE192.out | refine below_set ?_ GE202.out) | exact HB.out))) : w.heap.size ≤ gb210))
                              have n7_ := Aside0.mk ((by rw [hg]; exact Nat.ne_of_lt (blk_lt (g := gb191) (o := .cells #[.int .u32 a0_0, .int .u32 a0_1, .bool a0_2, .int .i64 a0_3, .int .i64 a0_4, .int .u32 a0_5] 39 (0, 0)) (by (with_reducible repeat (first | refine blk_drewN ?_ _ | refine blk_drew ?_ | refine blk_alloc ?_ _)); exact BK191.out)) : gb191 ≠ gb210))
                              have n8_ := Aside0.mk ((by rw [hg]; exact Nat.ne_of_gt (blk_lt (g := gb191) (o := .cells #[.int .u32 a0_0, .int .u32 a0_1, .bool a0_2, .int .i64 a0_3, .int .i64 a0_4, .int .u32 a0_5] 39 (0, 0)) (by (with_reducible repeat (first | refine blk_drewN ?_ _ | refine blk_drew ?_ | refine blk_alloc ?_ _)); exact BK191.out)) : gb210 ≠ gb191))
                              have n9_ := Aside0.mk ((by rw [hg]; exact Nat.ne_of_lt (blk_lt (g := gb192) (o := .cells #[.int .u32 a0_0, .int .u32 a0_1, .bool a0_2] 24 (0, 0)) (by (with_reducible repeat (first | refine blk_drewN ?_ _ | refine blk_drew ?_ | refine blk_alloc ?_ _)); exact BK192.out)) : gb192 ≠ gb210))
                              have n10_ := Aside0.mk ((by rw [hg]; exact Nat.ne_of_gt (blk_lt (g := gb192) (o := .cells #[.int .u32 a0_0, .int .u32 a0_1, .bool a0_2] 24 (0, 0)) (by (with_reducible repeat (first | refine blk_drewN ?_ _ | refine blk_drew ?_ | refine blk_alloc ?_ _)); exact BK192.out)) : gb210 ≠ gb192))
                              have n11_ := Aside0.mk ((by rw [hg]; exact Nat.ne_of_lt (blk_lt (g := gb202) (o := .cells #[.int .u32 a0_5, .int .u32 a0_5, .bool false] 24 (0, 0)) (by (with_reducible repeat (first | refine blk_drewN ?_ _ | refine blk_drew ?_ | refine blk_alloc ?_ _)); exact BK202.out)) : gb202 ≠ gb210))
                              have n12_ := Aside0.mk ((by rw [hg]; exact Nat.ne_of_gt (blk_lt (g := gb202) (o := .cells #[.int .u32 a0_5, .int .u32 a0_5, .bool false] 24 (0, 0)) (by (with_reducible repeat (first | refine blk_drewN ?_ _ | refine blk_drew ?_ | refine blk_alloc ?_ _)); exact BK202.out)) : gb210 ≠ gb202))
                              clear BK191
                              clear BK192
                              clear BK202
                              clear HB
                              have BK191 := n0_
                              have BK192 := n1_
                              have BK202 := n2_
                              have HB := n3_
                              have BK210 := n4_
                              have GW210 := n5_
                              have GE210 := n6_
                              have NB191_210 := n7_
                              have NB210_191 := n8_
                              have NB192_210 := n9_
                              have NB210_192 := n10_
                              have NB202_210 := n11_
                              have NB210_202 := n12_
                              clear n0_ n1_ n2_ n3_ n4_ n5_ n6_ n7_ n8_ n9_ n10_ n11_ n12_
                              clear hb hbox hg
                              refine hK.out _ _ ⟨(blk_cell BK202.out 0).trans rfl, (blk_cell BK202.out 1).trans rfl, (blk_cell BK202.out 2).trans rfl⟩ (fun hHeld => ?_)
                              clear hK K
                              refine norm_ (a' := ?_) ?_ ?_
                              rotate_left
                              · show Act.put _ (some 10) _ = _
                                simp only [Act.put, List.setIfInBounds_toArray, List.set_cons_zero, List.set_cons_succ, i64_w, i32_w]
                                rfl
                              exact norm_ (by first | (simp only [putAll, Act.put, List.setIfInBounds_toArray, List.set_cons_zero, List.set_cons_succ]; done) | (simp only [putAll, Act.put, List.setIfInBounds_toArray, List.set_cons_zero, List.set_cons_succ]; rfl)) (hJ10 (gb210) _ ⟨hHeld, (by (with_reducible repeat (first | refine blk_drewN ?_ _ | refine blk_drew ?_ | refine blk_alloc ?_ _)); exact BK191.out), (by (with_reducible repeat (first | refine blk_drewN ?_ _ | refine blk_drew ?_ | refine blk_alloc ?_ _)); exact BK192.out), (by (with_reducible repeat (first | refine blk_drewN ?_ _ | refine blk_drew ?_ | refine blk_alloc ?_ _)); exact BK202.out), (by (with_reducible repeat (first | refine blk_drewN ?_ _ | refine blk_drew ?_ | refine blk_alloc ?_ _)); exact BK210.out), GW210.out, GE210.out, NB191_210.out, NB210_191.out, NB192_210.out, NB210_192.out, NB202_210.out, NB210_202.out, (by repeat (first | (with_reducible first | exact HB.out | apply below_alloc | apply pw_below_drewN | apply below_drew1 | refine below_set ?_ GE191.out | refine below_set ?_ GE192.out | refine below_set ?_ GE202.out | refine below_set ?_ GE210.out) | exact HB.out))⟩)
                          · skip
                            rintro gb210 w31 ⟨hS_, h0_, h1_, h2_, h3_, h4_, h5_, h6_, h7_, h8_, h9_, h10_, h11_, h12_⟩
                            have n0_ : Aside0 (w31.heap[gb191]? = some (.cells #[.int .u32 a0_0, .int .u32 a0_1, .bool a0_2, .int .i64 a0_3, .int .i64 a0_4, .int .u32 a0_5] 39 (0, 0))) := ⟨h0_⟩
                            have n1_ : Aside0 (w31.heap[gb192]? = some (.cells #[.int .u32 a0_0, .int .u32 a0_1, .bool a0_2] 24 (0, 0))) := ⟨h1_⟩
                            have n2_ : Aside0 (w31.heap[gb202]? = some (.cells #[.int .u32 a0_5, .int .u32 a0_5, .bool false] 24 (0, 0))) := ⟨h2_⟩
                            have n3_ : Aside0 (w31.heap[gb210]? = some (.cells #[.int .u32 0, .int .u32 0, .bool false] 24 (0, 0))) := ⟨h3_⟩
                            have n4_ : Aside0 (w.heap.size ≤ gb210) := ⟨h4_⟩
                            have n5_ : Aside0 (w.heap.size ≤ gb210) := ⟨h5_⟩
                            have n6_ : Aside0 (gb191 ≠ gb210) := ⟨h6_⟩
                            have n7_ : Aside0 (gb210 ≠ gb191) := ⟨h7_⟩
                            have n8_ : Aside0 (gb192 ≠ gb210) := ⟨h8_⟩
                            have n9_ : Aside0 (gb210 ≠ gb192) := ⟨h9_⟩
                            have n10_ : Aside0 (gb202 ≠ gb210) := ⟨h10_⟩
                            have n11_ : Aside0 (gb210 ≠ gb202) := ⟨h11_⟩
                            have n12_ : Aside0 (Below w.heap.size w w31) := ⟨h12_⟩
                            clear BK191
                            clear BK192
                            clear BK202
                            clear HB
                            clear h0_ h1_ h2_ h3_ h4_ h5_ h6_ h7_ h8_ h9_ h10_ h11_ h12_
                            have BK191 := n0_
                            have BK192 := n1_
                            have BK202 := n2_
                            have BK210 := n3_
                            have GW210 := n4_
                            have GE210 := n5_
                            have NB191_210 := n6_
                            have NB210_191 := n7_
                            have NB192_210 := n8_
                            have NB210_192 := n9_
                            have NB202_210 := n10_
                            have NB210_202 := n11_
                            have HB := n12_
                            clear n0_ n1_ n2_ n3_ n4_ n5_ n6_ n7_ n8_ n9_ n10_ n11_ n12_
                            have hHeld : w31.cell? ⟨gb202, 0, none⟩ = some (.int .u32 a0_5) ∧ w31.cell? ⟨gb202, 1, none⟩ = some (.int .u32 a0_5) ∧ w31.cell? ⟨gb202, 2, none⟩ = some (.bool false) := hS_
                            refine norm_ (a' := ?_) ?_ ?_
                            rotate_left
                            · simp only [putAll, Act.put, List.setIfInBounds_toArray, List.set_cons_zero, List.set_cons_succ]
                              rfl
                            refine two_ (i := 4) (j := 9) (Ni := some 44) (Nj := some 9) #[true, true, true, true, true, true, true, true, false, false, true, false, false] #[true, true, true, true, false, true, true, true, false, true, true, false, false] rfl rfl rfl rfl (two_of HT_.out (by kernel_rfl)) (by decide) (by decide) (fun K hK => ?_) (fun K hK => ?_)
                            · skip
                              refine goes_ Try.func16 (by kernel_rfl) rfl #[.agg #[.int .u32 a0_5, .int .u32 a0_5, .bool false], .int .i64 (wrap64 ((wrap64 (a0_5)) - 1))] (by rfl) rfl rfl (by (try simp only [List.map_toArray, List.map_cons, List.map_nil]); first | done | rfl | (simp only [List.length_drop, List.length_take]; rfl)) ?_
                              with_reducible refine (timer_Ticks.calls k a0_5 a0_5 false (wrap64 ((wrap64 (a0_5)) - 1)) t203 t204 false _ A7.out).mono ?_
                              rintro e w32 ⟨rfl, hb⟩
                              refine ⟨_, rfl, ?_⟩
                              have n0_ := Aside0.mk (blk_below (g := gb191) (o := .cells #[.int .u32 a0_0, .int .u32 a0_1, .bool a0_2, .int .i64 a0_3, .int .i64 a0_4, .int .u32 a0_5] 39 (0, 0)) (by (with_reducible repeat (first | refine blk_drewN ?_ _ | refine blk_drew ?_ | refine blk_alloc ?_ _)); exact BK191.out) hb)
                              have n1_ := Aside0.mk (blk_below (g := gb192) (o := .cells #[.int .u32 a0_0, .int .u32 a0_1, .bool a0_2] 24 (0, 0)) (by (with_reducible repeat (first | refine blk_drewN ?_ _ | refine blk_drew ?_ | refine blk_alloc ?_ _)); exact BK192.out) hb)
                              have n2_ := Aside0.mk (blk_below (g := gb202) (o := .cells #[.int .u32 a0_5, .int .u32 a0_5, .bool false] 24 (0, 0)) (by (with_reducible repeat (first | refine blk_drewN ?_ _ | refine blk_drew ?_ | refine blk_alloc ?_ _)); exact BK202.out) hb)
                              have n3_ := Aside0.mk (blk_below (g := gb210) (o := .cells #[.int .u32 0, .int .u32 0, .bool false] 24 (0, 0)) (by (with_reducible repeat (first | refine blk_drewN ?_ _ | refine blk_drew ?_ | refine blk_alloc ?_ _)); exact BK210.out) hb)
                              have n4_ := Aside0.mk (below_step (by repeat (first | (with_reducible first | exact HB.out | apply below_alloc | apply pw_below_drewN | apply below_drew1 | refine below_set ?_ GE191.out | refine below_set ?_ GE192.out | refine below_set ?_ GE202.out | refine below_set ?_ GE210.out) | exact HB.out)) hb)
                              clear BK191
                              clear BK192
                              clear BK202
                              clear BK210
                              clear HB
                              have BK191 := n0_
                              have BK192 := n1_
                              have BK202 := n2_
                              have BK210 := n3_
                              have HB := n4_
                              clear n0_ n1_ n2_ n3_ n4_
                              (try clear hb)
                              (try clear hb2)
                              (try clear hk)
                              (try clear hi)
                              refine hK.out _ _ ⟨(blk_cell BK202.out 0).trans rfl, (blk_cell BK202.out 1).trans rfl, (blk_cell BK202.out 2).trans rfl⟩ (fun hHeld => ?_)
                              clear hK K
                              refine norm_ (a' := ?_) ?_ ?_
                              rotate_left
                              · show Act.put _ (some 44) _ = _
                                simp only [Act.put, List.setIfInBounds_toArray, List.set_cons_zero, List.set_cons_succ, i64_w, i32_w]
                                rfl
                              exact norm_ (by first | (simp only [putAll, Act.put, List.setIfInBounds_toArray, List.set_cons_zero, List.set_cons_succ]; done) | (simp only [putAll, Act.put, List.setIfInBounds_toArray, List.set_cons_zero, List.set_cons_succ]; rfl)) (hJ4_10 (gb210) _ ⟨hHeld, (by (with_reducible repeat (first | refine blk_drewN ?_ _ | refine blk_drew ?_ | refine blk_alloc ?_ _)); exact BK191.out), (by (with_reducible repeat (first | refine blk_drewN ?_ _ | refine blk_drew ?_ | refine blk_alloc ?_ _)); exact BK192.out), (by (with_reducible repeat (first | refine blk_drewN ?_ _ | refine blk_drew ?_ | refine blk_alloc ?_ _)); exact BK202.out), (by (with_reducible repeat (first | refine blk_drewN ?_ _ | refine blk_drew ?_ | refine blk_alloc ?_ _)); exact BK210.out), GW210.out, GE210.out, NB191_210.out, NB210_191.out, NB192_210.out, NB210_192.out, NB202_210.out, NB210_202.out, (by repeat (first | (with_reducible first | exact HB.out | apply below_alloc | apply pw_below_drewN | apply below_drew1 | refine below_set ?_ GE191.out | refine below_set ?_ GE192.out | refine below_set ?_ GE202.out | refine below_set ?_ GE210.out) | exact HB.out))⟩)
                            · skip
                              refine box_step ?hg (N := 9) ?hd (cs := #[.int .u32 0, .int .u32 0, .bool false]) (t := 24) ?hr ?_; (case hd => rfl); (case hg => rfl); (case hr => first | (go_simp; done) | (go_simp; rfl))
                              intro gb209 hg w32 hbox hb
                              have n0_ := Aside0.mk (blk_below (g := gb191) (o := .cells #[.int .u32 a0_0, .int .u32 a0_1, .bool a0_2, .int .i64 a0_3, .int .i64 a0_4, .int .u32 a0_5] 39 (0, 0)) (by (with_reducible repeat (first | refine blk_drewN ?_ _ | refine blk_drew ?_ | refine blk_alloc ?_ _)); exact BK191.out) hb)
                              have n1_ := Aside0.mk (blk_below (g := gb192) (o := .cells #[.int .u32 a0_0, .int .u32 a0_1, .bool a0_2] 24 (0, 0)) (by (with_reducible repeat (first | refine blk_drewN ?_ _ | refine blk_drew ?_ | refine blk_alloc ?_ _)); exact BK192.out) hb)
                              have n2_ := Aside0.mk (blk_below (g := gb202) (o := .cells #[.int .u32 a0_5, .int .u32 a0_5, .bool false] 24 (0, 0)) (by (with_reducible repeat (first | refine blk_drewN ?_ _ | refine blk_drew ?_ | refine blk_alloc ?_ _)); exact BK202.out) hb)
                              have n3_ := Aside0.mk (blk_below (g := gb210) (o := .cells #[.int .u32 0, .int .u32 0, .bool false] 24 (0, 0)) (by (with_reducible repeat (first | refine blk_drewN ?_ _ | refine blk_drew ?_ | refine blk_alloc ?_ _)); exact BK210.out) hb)
                              have n4_ := Aside0.mk (below_step (by repeat (first | (with_reducible first | exact HB.out | apply below_alloc | apply pw_below_drewN | apply below_drew1 | refine below_set ?_ GE191.out | refine below_set ?_ GE192.out | refine below_set ?_ GE202.out | refine below_set ?_ GE210.out) | exact HB.out)) hb)
                              have n5_ := Aside0.mk (hbox)
                              have n6_ := Aside0.mk ((by rw [hg]; exact (below_size (by repeat (first | (with_reducible first | exact HB.out | apply below_alloc | apply pw_below_drewN | apply below_drew1 | refine below_set ?_ GE191.out | refine below_set ?_ GE192.out | refine below_set ?_ GE202.out | refine below_set ?_ GE210.out) | exact HB.out))) : w.heap.size ≤ gb209))
                              have n7_ := Aside0.mk ((by rw [hg]; exact (below_size (by repeat (first | (with_reducible first | exact HB.out | apply below_alloc | apply pw_below_drewN | apply below_drew1 | refine below_set ?_ GE191.out | refine below_set ?_ GE192.out | refine below_set ?_ GE202.out | refine below_set ?_ GE210.out) | exact HB.out))) : w.heap.size ≤ gb209))
                              have n8_ := Aside0.mk ((by rw [hg]; exact Nat.ne_of_lt (blk_lt (g := gb191) (o := .cells #[.int .u32 a0_0, .int .u32 a0_1, .bool a0_2, .int .i64 a0_3, .int .i64 a0_4, .int .u32 a0_5] 39 (0, 0)) (by (with_reducible repeat (first | refine blk_drewN ?_ _ | refine blk_drew ?_ | refine blk_alloc ?_ _)); exact BK191.out)) : gb191 ≠ gb209))
                              have n9_ := Aside0.mk ((by rw [hg]; exact Nat.ne_of_gt (blk_lt (g := gb191) (o := .cells #[.int .u32 a0_0, .int .u32 a0_1, .bool a0_2, .int .i64 a0_3, .int .i64 a0_4, .int .u32 a0_5] 39 (0, 0)) (by (with_reducible repeat (first | refine blk_drewN ?_ _ | refine blk_drew ?_ | refine blk_alloc ?_ _)); exact BK191.out)) : gb209 ≠ gb191))
                              have n10_ := Aside0.mk ((by rw [hg]; exact Nat.ne_of_lt (blk_lt (g := gb192) (o := .cells #[.int .u32 a0_0, .int .u32 a0_1, .bool a0_2] 24 (0, 0)) (by (with_reducible repeat (first | refine blk_drewN ?_ _ | refine blk_drew ?_ | refine blk_alloc ?_ _)); exact BK192.out)) : gb192 ≠ gb209))
                              have n11_ := Aside0.mk ((by rw [hg]; exact Nat.ne_of_gt (blk_lt (g := gb192) (o := .cells #[.int .u32 a0_0, .int .u32 a0_1, .bool a0_2] 24 (0, 0)) (by (with_reducible repeat (first | refine blk_drewN ?_ _ | refine blk_drew ?_ | refine blk_alloc ?_ _)); exact BK192.out)) : gb209 ≠ gb192))
                              have n12_ := Aside0.mk ((by rw [hg]; exact Nat.ne_of_lt (blk_lt (g := gb202) (o := .cells #[.int .u32 a0_5, .int .u32 a0_5, .bool false] 24 (0, 0)) (by (with_reducible repeat (first | refine blk_drewN ?_ _ | refine blk_drew ?_ | refine blk_alloc ?_ _)); exact BK202.out)) : gb202 ≠ gb209))
                              have n13_ := Aside0.mk ((by rw [hg]; exact Nat.ne_of_gt (blk_lt (g := gb202) (o := .cells #[.int .u32 a0_5, .int .u32 a0_5, .bool false] 24 (0, 0)) (by (with_reducible repeat (first | refine blk_drewN ?_ _ | refine blk_drew ?_ | refine blk_alloc ?_ _)); exact BK202.out)) : gb209 ≠ gb202))
                              have n14_ := Aside0.mk ((by rw [hg]; exact Nat.ne_of_lt (blk_lt (g := gb210) (o := .cells #[.int .u32 0, .int .u32 0, .bool false] 24 (0, 0)) (by (with_reducible repeat (first | refine blk_drewN ?_ _ | refine blk_drew ?_ | refine blk_alloc ?_ _)); exact BK210.out)) : gb210 ≠ gb209))
                              have n15_ := Aside0.mk ((by rw [hg]; exact Nat.ne_of_gt (blk_lt (g := gb210) (o := .cells #[.int .u32 0, .int .u32 0, .bool false] 24 (0, 0)) (by (with_reducible repeat (first | refine blk_drewN ?_ _ | refine blk_drew ?_ | refine blk_alloc ?_ _)); exact BK210.out)) : gb209 ≠ gb210))
                              clear BK191
                              clear BK192
                              clear BK202
                              clear BK210
                              clear HB
                              have BK191 := n0_
                              have BK192 := n1_
                              have BK202 := n2_
                              have BK210 := n3_
                              have HB := n4_
                              have BK209 := n5_
                              have GW209 := n6_
                              have GE209 := n7_
                              have NB191_209 := n8_
                              have NB209_191 := n9_
                              have NB192_209 := n10_
                              have NB209_192 := n11_
                              have NB202_209 := n12_
                              have NB209_202 := n13_
                              have NB210_209 := n14_
                              have NB209_210 := n15_
                              clear n0_ n1_ n2_ n3_ n4_ n5_ n6_ n7_ n8_ n9_ n10_ n11_ n12_ n13_ n14_ n15_
                              clear hb hbox hg
                              refine hK.out _ _ ⟨(blk_cell BK202.out 0).trans rfl, (blk_cell BK202.out 1).trans rfl, (blk_cell BK202.out 2).trans rfl⟩ (fun hHeld => ?_)
                              clear hK K
                              refine norm_ (a' := ?_) ?_ ?_
                              rotate_left
                              · show Act.put _ (some 9) _ = _
                                simp only [Act.put, List.setIfInBounds_toArray, List.set_cons_zero, List.set_cons_succ, i64_w, i32_w]
                                rfl
                              exact norm_ (by first | (simp only [putAll, Act.put, List.setIfInBounds_toArray, List.set_cons_zero, List.set_cons_succ]; done) | (simp only [putAll, Act.put, List.setIfInBounds_toArray, List.set_cons_zero, List.set_cons_succ]; rfl)) (hJ9_10 (gb209, gb210) _ ⟨hHeld, (by (with_reducible repeat (first | refine blk_drewN ?_ _ | refine blk_drew ?_ | refine blk_alloc ?_ _)); exact BK191.out), (by (with_reducible repeat (first | refine blk_drewN ?_ _ | refine blk_drew ?_ | refine blk_alloc ?_ _)); exact BK192.out), (by (with_reducible repeat (first | refine blk_drewN ?_ _ | refine blk_drew ?_ | refine blk_alloc ?_ _)); exact BK202.out), (by (with_reducible repeat (first | refine blk_drewN ?_ _ | refine blk_drew ?_ | refine blk_alloc ?_ _)); exact BK209.out), (by (with_reducible repeat (first | refine blk_drewN ?_ _ | refine blk_drew ?_ | refine blk_alloc ?_ _)); exact BK210.out), GW209.out, GE209.out, NB191_209.out, NB209_191.out, NB192_209.out, NB209_192.out, NB202_209.out, NB209_202.out, NB210_209.out, NB209_210.out, GW210.out, GE210.out, NB191_210.out, NB210_191.out, NB192_210.out, NB210_192.out, NB202_210.out, NB210_202.out, (by repeat (first | (with_reducible first | exact HB.out | apply below_alloc | apply pw_below_drewN | apply below_drew1 | refine below_set ?_ GE191.out | refine below_set ?_ GE192.out | refine below_set ?_ GE202.out | refine below_set ?_ GE210.out | refine below_set ?_ GE209.out) | exact HB.out))⟩)
                        · skip
                          rintro gb209 w31 ⟨hS_, h0_, h1_, h2_, h3_, h4_, h5_, h6_, h7_, h8_, h9_, h10_, h11_, h12_⟩
                          have n0_ : Aside0 (w31.heap[gb191]? = some (.cells #[.int .u32 a0_0, .int .u32 a0_1, .bool a0_2, .int .i64 a0_3, .int .i64 a0_4, .int .u32 a0_5] 39 (0, 0))) := ⟨h0_⟩
                          have n1_ : Aside0 (w31.heap[gb192]? = some (.cells #[.int .u32 a0_0, .int .u32 a0_1, .bool a0_2] 24 (0, 0))) := ⟨h1_⟩
                          have n2_ : Aside0 (w31.heap[gb202]? = some (.cells #[.int .u32 a0_5, .int .u32 a0_5, .bool false] 24 (0, 0))) := ⟨h2_⟩
                          have n3_ : Aside0 (w31.heap[gb209]? = some (.cells #[.int .u32 0, .int .u32 0, .bool false] 24 (0, 0))) := ⟨h3_⟩
                          have n4_ : Aside0 (w.heap.size ≤ gb209) := ⟨h4_⟩
                          have n5_ : Aside0 (w.heap.size ≤ gb209) := ⟨h5_⟩
                          have n6_ : Aside0 (gb191 ≠ gb209) := ⟨h6_⟩
                          have n7_ : Aside0 (gb209 ≠ gb191) := ⟨h7_⟩
                          have n8_ : Aside0 (gb192 ≠ gb209) := ⟨h8_⟩
                          have n9_ : Aside0 (gb209 ≠ gb192) := ⟨h9_⟩
                          have n10_ : Aside0 (gb202 ≠ gb209) := ⟨h10_⟩
                          have n11_ : Aside0 (gb209 ≠ gb202) := ⟨h11_⟩
                          have n12_ : Aside0 (Below w.heap.size w w31) := ⟨h12_⟩
                          clear BK191
                          clear BK192
                          clear BK202
                          clear HB
                          clear h0_ h1_ h2_ h3_ h4_ h5_ h6_ h7_ h8_ h9_ h10_ h11_ h12_
                          have BK191 := n0_
                          have BK192 := n1_
                          have BK202 := n2_
                          have BK209 := n3_
                          have GW209 := n4_
                          have GE209 := n5_
                          have NB191_209 := n6_
                          have NB209_191 := n7_
                          have NB192_209 := n8_
                          have NB209_192 := n9_
                          have NB202_209 := n10_
                          have NB209_202 := n11_
                          have HB := n12_
                          clear n0_ n1_ n2_ n3_ n4_ n5_ n6_ n7_ n8_ n9_ n10_ n11_ n12_
                          have hHeld : w31.cell? ⟨gb202, 0, none⟩ = some (.int .u32 a0_5) ∧ w31.cell? ⟨gb202, 1, none⟩ = some (.int .u32 a0_5) ∧ w31.cell? ⟨gb202, 2, none⟩ = some (.bool false) := hS_
                          refine norm_ (a' := ?_) ?_ ?_
                          rotate_left
                          · simp only [putAll, Act.put, List.setIfInBounds_toArray, List.set_cons_zero, List.set_cons_succ]
                            rfl
                          refine two_ (i := 4) (j := 10) (Ni := some 44) (Nj := some 10) #[true, true, true, true, true, true, true, true, false, true, false, false, false] #[true, true, true, true, false, true, true, true, false, true, true, false, false] rfl rfl rfl rfl (two_of HT_.out (by kernel_rfl)) (by decide) (by decide) (fun K hK => ?_) (fun K hK => ?_)
                          · skip
                            refine goes_ Try.func16 (by kernel_rfl) rfl #[.agg #[.int .u32 a0_5, .int .u32 a0_5, .bool false], .int .i64 (wrap64 ((wrap64 (a0_5)) - 1))] (by rfl) rfl rfl (by (try simp only [List.map_toArray, List.map_cons, List.map_nil]); first | done | rfl | (simp only [List.length_drop, List.length_take]; rfl)) ?_
                            with_reducible refine (timer_Ticks.calls k a0_5 a0_5 false (wrap64 ((wrap64 (a0_5)) - 1)) t203 t204 false _ A7.out).mono ?_
                            rintro e w32 ⟨rfl, hb⟩
                            refine ⟨_, rfl, ?_⟩
                            have n0_ := Aside0.mk (blk_below (g := gb191) (o := .cells #[.int .u32 a0_0, .int .u32 a0_1, .bool a0_2, .int .i64 a0_3, .int .i64 a0_4, .int .u32 a0_5] 39 (0, 0)) (by (with_reducible repeat (first | refine blk_drewN ?_ _ | refine blk_drew ?_ | refine blk_alloc ?_ _)); exact BK191.out) hb)
                            have n1_ := Aside0.mk (blk_below (g := gb192) (o := .cells #[.int .u32 a0_0, .int .u32 a0_1, .bool a0_2] 24 (0, 0)) (by (with_reducible repeat (first | refine blk_drewN ?_ _ | refine blk_drew ?_ | refine blk_alloc ?_ _)); exact BK192.out) hb)
                            have n2_ := Aside0.mk (blk_below (g := gb202) (o := .cells #[.int .u32 a0_5, .int .u32 a0_5, .bool false] 24 (0, 0)) (by (with_reducible repeat (first | refine blk_drewN ?_ _ | refine blk_drew ?_ | refine blk_alloc ?_ _)); exact BK202.out) hb)
                            have n3_ := Aside0.mk (blk_below (g := gb209) (o := .cells #[.int .u32 0, .int .u32 0, .bool false] 24 (0, 0)) (by (with_reducible repeat (first | refine blk_drewN ?_ _ | refine blk_drew ?_ | refine blk_alloc ?_ _)); exact BK209.out) hb)
                            have n4_ := Aside0.mk (below_step (by repeat (first | (with_reducible first | exact HB.out | apply below_alloc | apply pw_below_drewN | apply below_drew1 | refine below_set ?_ GE191.out | refine below_set ?_ GE192.out | refine below_set ?_ GE202.out | refine below_set ?_ GE209.out) | exact HB.out)) hb)
                            clear BK191
                            clear BK192
                            clear BK202
                            clear BK209
                            clear HB
                            have BK191 := n0_
                            have BK192 := n1_
                            have BK202 := n2_
                            have BK209 := n3_
                            have HB := n4_
                            clear n0_ n1_ n2_ n3_ n4_
                            (try clear hb)
                            (try clear hb2)
                            (try clear hk)
                            (try clear hi)
                            refine hK.out _ _ ⟨(blk_cell BK202.out 0).trans rfl, (blk_cell BK202.out 1).trans rfl, (blk_cell BK202.out 2).trans rfl⟩ (fun hHeld => ?_)
                            clear hK K
                            refine norm_ (a' := ?_) ?_ ?_
                            rotate_left
                            · show Act.put _ (some 44) _ = _
                              simp only [Act.put, List.setIfInBounds_toArray, List.set_cons_zero, List.set_cons_succ, i64_w, i32_w]
                              rfl
                            exact norm_ (by first | (simp only [putAll, Act.put, List.setIfInBounds_toArray, List.set_cons_zero, List.set_cons_succ]; done) | (simp only [putAll, Act.put, List.setIfInBounds_toArray, List.set_cons_zero, List.set_cons_succ]; rfl)) (hJ4_9 (gb209) _ ⟨hHeld, (by (with_reducible repeat (first | refine blk_drewN ?_ _ | refine blk_drew ?_ | refine blk_alloc ?_ _)); exact BK191.out), (by (with_reducible repeat (first | refine blk_drewN ?_ _ | refine blk_drew ?_ | refine blk_alloc ?_ _)); exact BK192.out), (by (with_reducible repeat (first | refine blk_drewN ?_ _ | refine blk_drew ?_ | refine blk_alloc ?_ _)); exact BK202.out), (by (with_reducible repeat (first | refine blk_drewN ?_ _ | refine blk_drew ?_ | refine blk_alloc ?_ _)); exact BK209.out), GW209.out, GE209.out, NB191_209.out, NB209_191.out, NB192_209.out, NB209_192.out, NB202_209.out, NB209_202.out, (by repeat (first | (with_reducible first | exact HB.out | apply below_alloc | apply pw_below_drewN | apply below_drew1 | refine below_set ?_ GE191.out | refine below_set ?_ GE192.out | refine below_set ?_ GE202.out | refine below_set ?_ GE209.out) | exact HB.out))⟩)
                          · skip
                            refine box_step ?hg (N := 10) ?hd (cs := #[.int .u32 0, .int .u32 0, .bool false]) (t := 24) ?hr ?_; (case hd => rfl); (case hg => rfl); (case hr => first | (go_simp; done) | (go_simp; rfl))
                            intro gb210 hg w32 hbox hb
                            have n0_ := Aside0.mk (blk_below (g := gb191) (o := .cells #[.int .u32 a0_0, .int .u32 a0_1, .bool a0_2, .int .i64 a0_3, .int .i64 a0_4, .int .u32 a0_5] 39 (0, 0)) (by (with_reducible repeat (first | refine blk_drewN ?_ _ | refine blk_drew ?_ | refine blk_alloc ?_ _)); exact BK191.out) hb)
                            have n1_ := Aside0.mk (blk_below (g := gb192) (o := .cells #[.int .u32 a0_0, .int .u32 a0_1, .bool a0_2] 24 (0, 0)) (by (with_reducible repeat (first | refine blk_drewN ?_ _ | refine blk_drew ?_ | refine blk_alloc ?_ _)); exact BK192.out) hb)
                            have n2_ := Aside0.mk (blk_below (g := gb202) (o := .cells #[.int .u32 a0_5, .int .u32 a0_5, .bool false] 24 (0, 0)) (by (with_reducible repeat (first | refine blk_drewN ?_ _ | refine blk_drew ?_ | refine blk_alloc ?_ _)); exact BK202.out) hb)
                            have n3_ := Aside0.mk (blk_below (g := gb209) (o := .cells #[.int .u32 0, .int .u32 0, .bool false] 24 (0, 0)) (by (with_reducible repeat (first | refine blk_drewN ?_ _ | refine blk_drew ?_ | refine blk_alloc ?_ _)); exact BK209.out) hb)
                            have n4_ := Aside0.mk (below_step (by repeat (first | (with_reducible first | exact HB.out | apply below_alloc | apply pw_below_drewN | apply below_drew1 | refine below_set ?_ GE191.out | refine below_set ?_ GE192.out | refine below_set ?_ GE202.out | refine below_set ?_ GE209.out) | exact HB.out)) hb)
                            have n5_ := Aside0.mk (hbox)
                            have n6_ := Aside0.mk ((by rw [hg]; exact (below_size (by repeat (first | (with_reducible first | exact HB.out | apply below_alloc | apply pw_below_drewN | apply below_drew1 | refine below_set ?_ GE191.out | refine below_set ?_ GE192.out | refine below_set ?_ GE202.out | refine below_set ?_ GE209.out) | exact HB.out))) : w.heap.size ≤ gb210))
                            have n7_ := Aside0.mk ((by rw [hg]; exact (below_size (by repeat (first | (with_reducible first | exact HB.out | apply below_alloc | apply pw_below_drewN | apply below_drew1 | refine below_set ?_ GE191.out | refine below_set ?_ GE192.out | refine below_set ?_ GE202.out | refine below_set ?_ GE209.out) | exact HB.out))) : w.heap.size ≤ gb210))
                            have n8_ := Aside0.mk ((by rw [hg]; exact Nat.ne_of_lt (blk_lt (g := gb191) (o := .cells #[.int .u32 a0_0, .int .u32 a0_1, .bool a0_2, .int .i64 a0_3, .int .i64 a0_4, .int .u32 a0_5] 39 (0, 0)) (by (with_reducible repeat (first | refine blk_drewN ?_ _ | refine blk_drew ?_ | refine blk_alloc ?_ _)); exact BK191.out)) : gb191 ≠ gb210))
                            have n9_ := Aside0.mk ((by rw [hg]; exact Nat.ne_of_gt (blk_lt (g := gb191) (o := .cells #[.int .u32 a0_0, .int .u32 a0_1, .bool a0_2, .int .i64 a0_3, .int .i64 a0_4, .int .u32 a0_5] 39 (0, 0)) (by (with_reducible repeat (first | refine blk_drewN ?_ _ | refine blk_drew ?_ | refine blk_alloc ?_ _)); exact BK191.out)) : gb210 ≠ gb191))
                            have n10_ := Aside0.mk ((by rw [hg]; exact Nat.ne_of_lt (blk_lt (g := gb192) (o := .cells #[.int .u32 a0_0, .int .u32 a0_1, .bool a0_2] 24 (0, 0)) (by (with_reducible repeat (first | refine blk_drewN ?_ _ | refine blk_drew ?_ | refine blk_alloc ?_ _)); exact BK192.out)) : gb192 ≠ gb210))
                            have n11_ := Aside0.mk ((by rw [hg]; exact Nat.ne_of_gt (blk_lt (g := gb192) (o := .cells #[.int .u32 a0_0, .int .u32 a0_1, .bool a0_2] 24 (0, 0)) (by (with_reducible repeat (first | refine blk_drewN ?_ _ | refine blk_drew ?_ | refine blk_alloc ?_ _)); exact BK192.out)) : gb210 ≠ gb192))
                            have n12_ := Aside0.mk ((by rw [hg]; exact Nat.ne_of_lt (blk_lt (g := gb202) (o := .cells #[.int .u32 a0_5, .int .u32 a0_5, .bool false] 24 (0, 0)) (by (with_reducible repeat (first | refine blk_drewN ?_ _ | refine blk_drew ?_ | refine blk_alloc ?_ _)); exact BK202.out)) : gb202 ≠ gb210))
                            have n13_ := Aside0.mk ((by rw [hg]; exact Nat.ne_of_gt (blk_lt (g := gb202) (o := .cells #[.int .u32 a0_5, .int .u32 a0_5, .bool false] 24 (0, 0)) (by (with_reducible repeat (first | refine blk_drewN ?_ _ | refine blk_drew ?_ | refine blk_alloc ?_ _)); exact BK202.out)) : gb210 ≠ gb202))
                            have n14_ := Aside0.mk ((by rw [hg]; exact Nat.ne_of_lt (blk_lt (g := gb209) (o := .cells #[.int .u32 0, .int .u32 0, .bool false] 24 (0, 0)) (by (with_reducible repeat (first | refine blk_drewN ?_ _ | refine blk_drew ?_ | refine blk_alloc ?_ _)); exact BK209.out)) : gb209 ≠ gb210))
                            have n15_ := Aside0.mk ((by rw [hg]; exact Nat.ne_of_gt (blk_lt (g := gb209) (o := .cells #[.int .u32 0, .int .u32 0, .bool false] 24 (0, 0)) (by (with_reducible repeat (first | refine blk_drewN ?_ _ | refine blk_drew ?_ | refine blk_alloc ?_ _)); exact BK209.out)) : gb210 ≠ gb209))
                            clear BK191
                            clear BK192
                            clear BK202
                            clear BK209
                            clear HB
                            have BK191 := n0_
                            have BK192 := n1_
                            have BK202 := n2_
                            have BK209 := n3_
                            have HB := n4_
                            have BK210 := n5_
                            have GW210 := n6_
                            have GE210 := n7_
                            have NB191_210 := n8_
                            have NB210_191 := n9_
                            have NB192_210 := n10_
                            have NB210_192 := n11_
                            have NB202_210 := n12_
                            have NB210_202 := n13_
                            have NB209_210 := n14_
                            have NB210_209 := n15_
                            clear n0_ n1_ n2_ n3_ n4_ n5_ n6_ n7_ n8_ n9_ n10_ n11_ n12_ n13_ n14_ n15_
                            clear hb hbox hg
                            refine hK.out _ _ ⟨(blk_cell BK202.out 0).trans rfl, (blk_cell BK202.out 1).trans rfl, (blk_cell BK202.out 2).trans rfl⟩ (fun hHeld => ?_)
                            clear hK K
                            refine norm_ (a' := ?_) ?_ ?_
                            rotate_left
                            · show Act.put _ (some 10) _ = _
                              simp only [Act.put, List.setIfInBounds_toArray, List.set_cons_zero, List.set_cons_succ, i64_w, i32_w]
                              rfl
                            exact norm_ (by first | (simp only [putAll, Act.put, List.setIfInBounds_toArray, List.set_cons_zero, List.set_cons_succ]; done) | (simp only [putAll, Act.put, List.setIfInBounds_toArray, List.set_cons_zero, List.set_cons_succ]; rfl)) (hJ9_10 (gb209, gb210) _ ⟨hHeld, (by (with_reducible repeat (first | refine blk_drewN ?_ _ | refine blk_drew ?_ | refine blk_alloc ?_ _)); exact BK191.out), (by (with_reducible repeat (first | refine blk_drewN ?_ _ | refine blk_drew ?_ | refine blk_alloc ?_ _)); exact BK192.out), (by (with_reducible repeat (first | refine blk_drewN ?_ _ | refine blk_drew ?_ | refine blk_alloc ?_ _)); exact BK202.out), (by (with_reducible repeat (first | refine blk_drewN ?_ _ | refine blk_drew ?_ | refine blk_alloc ?_ _)); exact BK209.out), (by (with_reducible repeat (first | refine blk_drewN ?_ _ | refine blk_drew ?_ | refine blk_alloc ?_ _)); exact BK210.out), GW209.out, GE209.out, NB191_209.out, NB209_191.out, NB192_209.out, NB209_192.out, NB202_209.out, NB209_202.out, NB210_209.out, NB209_210.out, GW210.out, GE210.out, NB191_210.out, NB210_191.out, NB192_210.out, NB210_192.out, NB202_210.out, NB210_202.out, (by repeat (first | (with_reducible first | exact HB.out | apply below_alloc | apply pw_below_drewN | apply below_drew1 | refine below_set ?_ GE191.out | refine below_set ?_ GE192.out | refine below_set ?_ GE202.out | refine below_set ?_ GE209.out | refine below_set ?_ GE210.out) | exact HB.out))⟩)
                      · skip
                        rintro _ w31 ⟨hS_, h0_, h1_, h2_, h3_⟩
                        have n0_ : Aside0 (w31.heap[gb191]? = some (.cells #[.int .u32 a0_0, .int .u32 a0_1, .bool a0_2, .int .i64 a0_3, .int .i64 a0_4, .int .u32 a0_5] 39 (0, 0))) := ⟨h0_⟩
                        have n1_ : Aside0 (w31.heap[gb192]? = some (.cells #[.int .u32 a0_0, .int .u32 a0_1, .bool a0_2] 24 (0, 0))) := ⟨h1_⟩
                        have n2_ : Aside0 (w31.heap[gb202]? = some (.cells #[.int .u32 a0_5, .int .u32 a0_5, .bool false] 24 (0, 0))) := ⟨h2_⟩
                        have n3_ : Aside0 (Below w.heap.size w w31) := ⟨h3_⟩
                        clear BK191
                        clear BK192
                        clear BK202
                        clear HB
                        clear h0_ h1_ h2_ h3_
                        have BK191 := n0_
                        have BK192 := n1_
                        have BK202 := n2_
                        have HB := n3_
                        clear n0_ n1_ n2_ n3_
                        have hHeld : w31.cell? ⟨gb202, 0, none⟩ = some (.int .u32 a0_5) ∧ w31.cell? ⟨gb202, 1, none⟩ = some (.int .u32 a0_5) ∧ w31.cell? ⟨gb202, 2, none⟩ = some (.bool false) := hS_
                        refine norm_ (a' := ?_) ?_ ?_
                        rotate_left
                        · simp only [putAll, Act.put, List.setIfInBounds_toArray, List.set_cons_zero, List.set_cons_succ]
                          rfl
                        refine three_ (i := 8) (j := 9) (k := 10) (Ni := some 48) (Nj := some 9) (Nk := some 10) #[true, true, true, true, true, true, true, true, true, false, false, false, false] #[true, true, true, true, true, true, true, true, false, true, false, false, false] #[true, true, true, true, true, true, true, true, false, false, true, false, false] rfl rfl rfl rfl rfl rfl (three_of HT_.out (by kernel_rfl)) (by decide) (by decide) (by decide) (fun K hK => ?_) (fun K hK => ?_) (fun K hK => ?_)
                        · skip
                          refine goes_ Try.func16 (by kernel_rfl) rfl #[.agg #[.int .u32 a0_5, .int .u32 a0_5, .bool false], .int .i64 (wrap64 (a0_5))] (by rfl) rfl rfl (by (try simp only [List.map_toArray, List.map_cons, List.map_nil]); first | done | rfl | (simp only [List.length_drop, List.length_take]; rfl)) ?_
                          with_reducible refine (timer_Ticks.calls k a0_5 a0_5 false (wrap64 (a0_5)) t206 t207 t208 _ A8.out).mono ?_
                          rintro e w32 ⟨rfl, hb⟩
                          refine ⟨_, rfl, ?_⟩
                          have n0_ := Aside0.mk (blk_below (g := gb191) (o := .cells #[.int .u32 a0_0, .int .u32 a0_1, .bool a0_2, .int .i64 a0_3, .int .i64 a0_4, .int .u32 a0_5] 39 (0, 0)) (by (with_reducible repeat (first | refine blk_drewN ?_ _ | refine blk_drew ?_ | refine blk_alloc ?_ _)); exact BK191.out) hb)
                          have n1_ := Aside0.mk (blk_below (g := gb192) (o := .cells #[.int .u32 a0_0, .int .u32 a0_1, .bool a0_2] 24 (0, 0)) (by (with_reducible repeat (first | refine blk_drewN ?_ _ | refine blk_drew ?_ | refine blk_alloc ?_ _)); exact BK192.out) hb)
                          have n2_ := Aside0.mk (blk_below (g := gb202) (o := .cells #[.int .u32 a0_5, .int .u32 a0_5, .bool false] 24 (0, 0)) (by (with_reducible repeat (first | refine blk_drewN ?_ _ | refine blk_drew ?_ | refine blk_alloc ?_ _)); exact BK202.out) hb)
                          have n3_ := Aside0.mk (below_step (by repeat (first | (with_reducible first | exact HB.out | apply below_alloc | apply pw_below_drewN | apply below_drew1 | refine below_set ?_ GE191.out | refine below_set ?_ GE192.out | refine below_set ?_ GE202.out) | exact HB.out)) hb)
                          clear BK191
                          clear BK192
                          clear BK202
                          clear HB
                          have BK191 := n0_
                          have BK192 := n1_
                          have BK202 := n2_
                          have HB := n3_
                          clear n0_ n1_ n2_ n3_
                          (try clear hb)
                          (try clear hb2)
                          (try clear hk)
                          (try clear hi)
                          refine hK.out _ _ ⟨(blk_cell BK202.out 0).trans rfl, (blk_cell BK202.out 1).trans rfl, (blk_cell BK202.out 2).trans rfl⟩ (fun hHeld => ?_)
                          clear hK K
                          refine norm_ (a' := ?_) ?_ ?_
                          rotate_left
                          · show Act.put _ (some 48) _ = _
                            simp only [Act.put, List.setIfInBounds_toArray, List.set_cons_zero, List.set_cons_succ, i64_w, i32_w]
                            rfl
                          exact norm_ (by first | (simp only [putAll, Act.put, List.setIfInBounds_toArray, List.set_cons_zero, List.set_cons_succ]; done) | (simp only [putAll, Act.put, List.setIfInBounds_toArray, List.set_cons_zero, List.set_cons_succ]; rfl)) (hJ4_8 () _ ⟨hHeld, (by (with_reducible repeat (first | refine blk_drewN ?_ _ | refine blk_drew ?_ | refine blk_alloc ?_ _)); exact BK191.out), (by (with_reducible repeat (first | refine blk_drewN ?_ _ | refine blk_drew ?_ | refine blk_alloc ?_ _)); exact BK192.out), (by (with_reducible repeat (first | refine blk_drewN ?_ _ | refine blk_drew ?_ | refine blk_alloc ?_ _)); exact BK202.out), (by repeat (first | (with_reducible first | exact HB.out | apply below_alloc | apply pw_below_drewN | apply below_drew1 | refine below_set ?_ GE191.out | refine below_set ?_ GE192.out | refine below_set ?_ GE202.out) | exact HB.out))⟩)
                        · skip
                          refine box_step ?hg (N := 9) ?hd (cs := #[.int .u32 0, .int .u32 0, .bool false]) (t := 24) ?hr ?_; (case hd => rfl); (case hg => rfl); (case hr => first | (go_simp; done) | (go_simp; rfl))
                          intro gb209 hg w32 hbox hb
                          have n0_ := Aside0.mk (blk_below (g := gb191) (o := .cells #[.int .u32 a0_0, .int .u32 a0_1, .bool a0_2, .int .i64 a0_3, .int .i64 a0_4, .int .u32 a0_5] 39 (0, 0)) (by (with_reducible repeat (first | refine blk_drewN ?_ _ | refine blk_drew ?_ | refine blk_alloc ?_ _)); exact BK191.out) hb)
                          have n1_ := Aside0.mk (blk_below (g := gb192) (o := .cells #[.int .u32 a0_0, .int .u32 a0_1, .bool a0_2] 24 (0, 0)) (by (with_reducible repeat (first | refine blk_drewN ?_ _ | refine blk_drew ?_ | refine blk_alloc ?_ _)); exact BK192.out) hb)
                          have n2_ := Aside0.mk (blk_below (g := gb202) (o := .cells #[.int .u32 a0_5, .int .u32 a0_5, .bool false] 24 (0, 0)) (by (with_reducible repeat (first | refine blk_drewN ?_ _ | refine blk_drew ?_ | refine blk_alloc ?_ _)); exact BK202.out) hb)
                          have n3_ := Aside0.mk (below_step (by repeat (first | (with_reducible first | exact HB.out | apply below_alloc | apply pw_below_drewN | apply below_drew1 | refine below_set ?_ GE191.out | refine below_set ?_ GE192.out | refine below_set ?_ GE202.out) | exact HB.out)) hb)
                          have n4_ := Aside0.mk (hbox)
                          have n5_ := Aside0.mk ((by rw [hg]; exact (below_size (by repeat (first | (with_reducible first | exact HB.out | apply below_alloc | apply pw_below_drewN | apply below_drew1 | refine below_set ?_ GE191.out | refine below_set ?_ GE192.out | refine below_set ?_ GE202.out) | exact HB.out))) : w.heap.size ≤ gb209))
                          have n6_ := Aside0.mk ((by rw [hg]; exact (below_size (by repeat (first | (with_reducible first | exact HB.out | apply below_alloc | apply pw_below_drewN | apply below_drew1 | refine below_set ?_ GE191.out | refine below_set ?_ GE192.out | refine below_set ?_ GE202.out) | exact HB.out))) : w.heap.size ≤ gb209))
                          have n7_ := Aside0.mk ((by rw [hg]; exact Nat.ne_of_lt (blk_lt (g := gb191) (o := .cells #[.int .u32 a0_0, .int .u32 a0_1, .bool a0_2, .int .i64 a0_3, .int .i64 a0_4, .int .u32 a0_5] 39 (0, 0)) (by (with_reducible repeat (first | refine blk_drewN ?_ _ | refine blk_drew ?_ | refine blk_alloc ?_ _)); exact BK191.out)) : gb191 ≠ gb209))
                          have n8_ := Aside0.mk ((by rw [hg]; exact Nat.ne_of_gt (blk_lt (g := gb191) (o := .cells #[.int .u32 a0_0, .int .u32 a0_1, .bool a0_2, .int .i64 a0_3, .int .i64 a0_4, .int .u32 a0_5] 39 (0, 0)) (by (with_reducible repeat (first | refine blk_drewN ?_ _ | refine blk_drew ?_ | refine blk_alloc ?_ _)); exact BK191.out)) : gb209 ≠ gb191))
                          have n9_ := Aside0.mk ((by rw [hg]; exact Nat.ne_of_lt (blk_lt (g := gb192) (o := .cells #[.int .u32 a0_0, .int .u32 a0_1, .bool a0_2] 24 (0, 0)) (by (with_reducible repeat (first | refine blk_drewN ?_ _ | refine blk_drew ?_ | refine blk_alloc ?_ _)); exact BK192.out)) : gb192 ≠ gb209))
                          have n10_ := Aside0.mk ((by rw [hg]; exact Nat.ne_of_gt (blk_lt (g := gb192) (o := .cells #[.int .u32 a0_0, .int .u32 a0_1, .bool a0_2] 24 (0, 0)) (by (with_reducible repeat (first | refine blk_drewN ?_ _ | refine blk_drew ?_ | refine blk_alloc ?_ _)); exact BK192.out)) : gb209 ≠ gb192))
                          have n11_ := Aside0.mk ((by rw [hg]; exact Nat.ne_of_lt (blk_lt (g := gb202) (o := .cells #[.int .u32 a0_5, .int .u32 a0_5, .bool false] 24 (0, 0)) (by (with_reducible repeat (first | refine blk_drewN ?_ _ | refine blk_drew ?_ | refine blk_alloc ?_ _)); exact BK202.out)) : gb202 ≠ gb209))
                          have n12_ := Aside0.mk ((by rw [hg]; exact Nat.ne_of_gt (blk_lt (g := gb202) (o := .cells #[.int .u32 a0_5, .int .u32 a0_5, .bool false] 24 (0, 0)) (by (with_reducible repeat (first | refine blk_drewN ?_ _ | refine blk_drew ?_ | refine blk_alloc ?_ _)); exact BK202.out)) : gb209 ≠ gb202))
                          clear BK191
                          clear BK192
                          clear BK202
                          clear HB
                          have BK191 := n0_
                          have BK192 := n1_
                          have BK202 := n2_
                          have HB := n3_
                          have BK209 := n4_
                          have GW209 := n5_
                          have GE209 := n6_
                          have NB191_209 := n7_
                          have NB209_191 := n8_
                          have NB192_209 := n9_
                          have NB209_192 := n10_
                          have NB202_209 := n11_
                          have NB209_202 := n12_
                          clear n0_ n1_ n2_ n3_ n4_ n5_ n6_ n7_ n8_ n9_ n10_ n11_ n12_
                          clear hb hbox hg
                          refine hK.out _ _ ⟨(blk_cell BK202.out 0).trans rfl, (blk_cell BK202.out 1).trans rfl, (blk_cell BK202.out 2).trans rfl⟩ (fun hHeld => ?_)
                          clear hK K
                          refine norm_ (a' := ?_) ?_ ?_
                          rotate_left
                          · show Act.put _ (some 9) _ = _
                            simp only [Act.put, List.setIfInBounds_toArray, List.set_cons_zero, List.set_cons_succ, i64_w, i32_w]
                            rfl
                          exact norm_ (by first | (simp only [putAll, Act.put, List.setIfInBounds_toArray, List.set_cons_zero, List.set_cons_succ]; done) | (simp only [putAll, Act.put, List.setIfInBounds_toArray, List.set_cons_zero, List.set_cons_succ]; rfl)) (hJ4_9 (gb209) _ ⟨hHeld, (by (with_reducible repeat (first | refine blk_drewN ?_ _ | refine blk_drew ?_ | refine blk_alloc ?_ _)); exact BK191.out), (by (with_reducible repeat (first | refine blk_drewN ?_ _ | refine blk_drew ?_ | refine blk_alloc ?_ _)); exact BK192.out), (by (with_reducible repeat (first | refine blk_drewN ?_ _ | refine blk_drew ?_ | refine blk_alloc ?_ _)); exact BK202.out), (by (with_reducible repeat (first | refine blk_drewN ?_ _ | refine blk_drew ?_ | refine blk_alloc ?_ _)); exact BK209.out), GW209.out, GE209.out, NB191_209.out, NB209_191.out, NB192_209.out, NB209_192.out, NB202_209.out, NB209_202.out, (by repeat (first | (with_reducible first | exact HB.out | apply below_alloc | apply pw_below_drewN | apply below_drew1 | refine below_set ?_ GE191.out | refine below_set ?_ GE192.out | refine below_set ?_ GE202.out | refine below_set ?_ GE209.out) | exact HB.out))⟩)
                        · skip
                          refine box_step ?hg (N := 10) ?hd (cs := #[.int .u32 0, .int .u32 0, .bool false]) (t := 24) ?hr ?_; (case hd => rfl); (case hg => rfl); (case hr => first | (go_simp; done) | (go_simp; rfl))
                          intro gb210 hg w32 hbox hb
                          have n0_ := Aside0.mk (blk_below (g := gb191) (o := .cells #[.int .u32 a0_0, .int .u32 a0_1, .bool a0_2, .int .i64 a0_3, .int .i64 a0_4, .int .u32 a0_5] 39 (0, 0)) (by (with_reducible repeat (first | refine blk_drewN ?_ _ | refine blk_drew ?_ | refine blk_alloc ?_ _)); exact BK191.out) hb)
                          have n1_ := Aside0.mk (blk_below (g := gb192) (o := .cells #[.int .u32 a0_0, .int .u32 a0_1, .bool a0_2] 24 (0, 0)) (by (with_reducible repeat (first | refine blk_drewN ?_ _ | refine blk_drew ?_ | refine blk_alloc ?_ _)); exact BK192.out) hb)
                          have n2_ := Aside0.mk (blk_below (g := gb202) (o := .cells #[.int .u32 a0_5, .int .u32 a0_5, .bool false] 24 (0, 0)) (by (with_reducible repeat (first | refine blk_drewN ?_ _ | refine blk_drew ?_ | refine blk_alloc ?_ _)); exact BK202.out) hb)
                          have n3_ := Aside0.mk (below_step (by repeat (first | (with_reducible first | exact HB.out | apply below_alloc | apply pw_below_drewN | apply below_drew1 | refine below_set ?_ GE191.out | refine below_set ?_ GE192.out | refine below_set ?_ GE202.out) | exact HB.out)) hb)
                          have n4_ := Aside0.mk (hbox)
                          have n5_ := Aside0.mk ((by rw [hg]; exact (below_size (by repeat (first | (with_reducible first | exact HB.out | apply below_alloc | apply pw_below_drewN | apply below_drew1 | refine below_set ?_ GE191.out | refine below_set ?_ GE192.out | refine below_set ?_ GE202.out) | exact HB.out))) : w.heap.size ≤ gb210))
                          have n6_ := Aside0.mk ((by rw [hg]; exact (below_size (by repeat (first | (with_reducible first | exact HB.out | apply below_alloc | apply pw_below_drewN | apply below_drew1 | refine below_set ?_ GE191.out | refine below_set ?_ GE192.out | refine below_set ?_ GE202.out) | exact HB.out))) : w.heap.size ≤ gb210))
                          have n7_ := Aside0.mk ((by rw [hg]; exact Nat.ne_of_lt (blk_lt (g := gb191) (o := .cells #[.int .u32 a0_0, .int .u32 a0_1, .bool a0_2, .int .i64 a0_3, .int .i64 a0_4, .int .u32 a0_5] 39 (0, 0)) (by (with_reducible repeat (first | refine blk_drewN ?_ _ | refine blk_drew ?_ | refine blk_alloc ?_ _)); exact BK191.out)) : gb191 ≠ gb210))
                          have n8_ := Aside0.mk ((by rw [hg]; exact Nat.ne_of_gt (blk_lt (g := gb191) (o := .cells #[.int .u32 a0_0, .int .u32 a0_1, .bool a0_2, .int .i64 a0_3, .int .i64 a0_4, .int .u32 a0_5] 39 (0, 0)) (by (with_reducible repeat (first | refine blk_drewN ?_ _ | refine blk_drew ?_ | refine blk_alloc ?_ _)); exact BK191.out)) : gb210 ≠ gb191))
                          have n9_ := Aside0.mk ((by rw [hg]; exact Nat.ne_of_lt (blk_lt (g := gb192) (o := .cells #[.int .u32 a0_0, .int .u32 a0_1, .bool a0_2] 24 (0, 0)) (by (with_reducible repeat (first | refine blk_drewN ?_ _ | refine blk_drew ?_ | refine blk_alloc ?_ _)); exact BK192.out)) : gb192 ≠ gb210))
                          have n10_ := Aside0.mk ((by rw [hg]; exact Nat.ne_of_gt (blk_lt (g := gb192) (o := .cells #[.int .u32 a0_0, .int .u32 a0_1, .bool a0_2] 24 (0, 0)) (by (with_reducible repeat (first | refine blk_drewN ?_ _ | refine blk_drew ?_ | refine blk_alloc ?_ _)); exact BK192.out)) : gb210 ≠ gb192))
                          have n11_ := Aside0.mk ((by rw [hg]; exact Nat.ne_of_lt (blk_lt (g := gb202) (o := .cells #[.int .u32 a0_5, .int .u32 a0_5, .bool false] 24 (0, 0)) (by (with_reducible repeat (first | refine blk_drewN ?_ _ | refine blk_drew ?_ | refine blk_alloc ?_ _)); exact BK202.out)) : gb202 ≠ gb210))
                          have n12_ := Aside0.mk ((by rw [hg]; exact Nat.ne_of_gt (blk_lt (g := gb202) (o := .cells #[.int .u32 a0_5, .int .u32 a0_5, .bool false] 24 (0, 0)) (by (with_reducible repeat (first | refine blk_drewN ?_ _ | refine blk_drew ?_ | refine blk_alloc ?_ _)); exact BK202.out)) : gb210 ≠ gb202))
                          clear BK191
                          clear BK192
                          clear BK202
                          clear HB
                          have BK191 := n0_
                          have BK192 := n1_
                          have BK202 := n2_
                          have HB := n3_
                          have BK210 := n4_
                          have GW210 := n5_
                          have GE210 := n6_
                          have NB191_210 := n7_
                          have NB210_191 := n8_
                          have NB192_210 := n9_
                          have NB210_192 := n10_
                          have NB202_210 := n11_
                          have NB210_202 := n12_
                          clear n0_ n1_ n2_ n3_ n4_ n5_ n6_ n7_ n8_ n9_ n10_ n11_ n12_
                          clear hb hbox hg
                          refine hK.out _ _ ⟨(blk_cell BK202.out 0).trans rfl, (blk_cell BK202.out 1).trans rfl, (blk_cell BK202.out 2).trans rfl⟩ (fun hHeld => ?_)
                          clear hK K
                          refine norm_ (a' := ?_) ?_ ?_
                          rotate_left
                          · show Act.put _ (some 10) _ = _
                            simp only [Act.put, List.setIfInBounds_toArray, List.set_cons_zero, List.set_cons_succ, i64_w, i32_w]
                            rfl
                          exact norm_ (by first | (simp only [putAll, Act.put, List.setIfInBounds_toArray, List.set_cons_zero, List.set_cons_succ]; done) | (simp only [putAll, Act.put, List.setIfInBounds_toArray, List.set_cons_zero, List.set_cons_succ]; rfl)) (hJ4_10 (gb210) _ ⟨hHeld, (by (with_reducible repeat (first | refine blk_drewN ?_ _ | refine blk_drew ?_ | refine blk_alloc ?_ _)); exact BK191.out), (by (with_reducible repeat (first | refine blk_drewN ?_ _ | refine blk_drew ?_ | refine blk_alloc ?_ _)); exact BK192.out), (by (with_reducible repeat (first | refine blk_drewN ?_ _ | refine blk_drew ?_ | refine blk_alloc ?_ _)); exact BK202.out), (by (with_reducible repeat (first | refine blk_drewN ?_ _ | refine blk_drew ?_ | refine blk_alloc ?_ _)); exact BK210.out), GW210.out, GE210.out, NB191_210.out, NB210_191.out, NB192_210.out, NB210_192.out, NB202_210.out, NB210_202.out, (by repeat (first | (with_reducible first | exact HB.out | apply below_alloc | apply pw_below_drewN | apply below_drew1 | refine below_set ?_ GE191.out | refine below_set ?_ GE192.out | refine below_set ?_ GE202.out | refine below_set ?_ GE210.out) | exact HB.out))⟩)
                    · skip
                      rintro ⟨gb209, gb210⟩ w32 ⟨hS_, h0_, h1_, h2_, h3_, h4_, h5_, h6_, h7_, h8_, h9_, h10_, h11_, h12_, h13_, h14_, h15_, h16_, h17_, h18_, h19_, h20_, h21_, h22_, h23_⟩
                      have n0_ : Aside0 (w32.heap[gb191]? = some (.cells #[.int .u32 a0_0, .int .u32 a0_1, .bool a0_2, .int .i64 a0_3, .int .i64 a0_4, .int .u32 a0_5] 39 (0, 0))) := ⟨h0_⟩
                      have n1_ : Aside0 (w32.heap[gb192]? = some (.cells #[.int .u32 a0_0, .int .u32 a0_1, .bool a0_2] 24 (0, 0))) := ⟨h1_⟩
                      have n2_ : Aside0 (w32.heap[gb202]? = some (.cells #[.int .u32 a0_5, .int .u32 a0_5, .bool false] 24 (0, 0))) := ⟨h2_⟩
                      have n3_ : Aside0 (w32.heap[gb209]? = some (.cells #[.int .u32 0, .int .u32 0, .bool false] 24 (0, 0))) := ⟨h3_⟩
                      have n4_ : Aside0 (w32.heap[gb210]? = some (.cells #[.int .u32 0, .int .u32 0, .bool false] 24 (0, 0))) := ⟨h4_⟩
                      have n5_ : Aside0 (w.heap.size ≤ gb209) := ⟨h5_⟩
                      have n6_ : Aside0 (w.heap.size ≤ gb209) := ⟨h6_⟩
                      have n7_ : Aside0 (gb191 ≠ gb209) := ⟨h7_⟩
                      have n8_ : Aside0 (gb209 ≠ gb191) := ⟨h8_⟩
                      have n9_ : Aside0 (gb192 ≠ gb209) := ⟨h9_⟩
                      have n10_ : Aside0 (gb209 ≠ gb192) := ⟨h10_⟩
                      have n11_ : Aside0 (gb202 ≠ gb209) := ⟨h11_⟩
                      have n12_ : Aside0 (gb209 ≠ gb202) := ⟨h12_⟩
                      have n13_ : Aside0 (gb210 ≠ gb209) := ⟨h13_⟩
                      have n14_ : Aside0 (gb209 ≠ gb210) := ⟨h14_⟩
                      have n15_ : Aside0 (w.heap.size ≤ gb210) := ⟨h15_⟩
                      have n16_ : Aside0 (w.heap.size ≤ gb210) := ⟨h16_⟩
                      have n17_ : Aside0 (gb191 ≠ gb210) := ⟨h17_⟩
                      have n18_ : Aside0 (gb210 ≠ gb191) := ⟨h18_⟩
                      have n19_ : Aside0 (gb192 ≠ gb210) := ⟨h19_⟩
                      have n20_ : Aside0 (gb210 ≠ gb192) := ⟨h20_⟩
                      have n21_ : Aside0 (gb202 ≠ gb210) := ⟨h21_⟩
                      have n22_ : Aside0 (gb210 ≠ gb202) := ⟨h22_⟩
                      have n23_ : Aside0 (Below w.heap.size w w32) := ⟨h23_⟩
                      clear BK191
                      clear BK192
                      clear BK202
                      clear HB
                      clear h0_ h1_ h2_ h3_ h4_ h5_ h6_ h7_ h8_ h9_ h10_ h11_ h12_ h13_ h14_ h15_ h16_ h17_ h18_ h19_ h20_ h21_ h22_ h23_
                      have BK191 := n0_
                      have BK192 := n1_
                      have BK202 := n2_
                      have BK209 := n3_
                      have BK210 := n4_
                      have GW209 := n5_
                      have GE209 := n6_
                      have NB191_209 := n7_
                      have NB209_191 := n8_
                      have NB192_209 := n9_
                      have NB209_192 := n10_
                      have NB202_209 := n11_
                      have NB209_202 := n12_
                      have NB210_209 := n13_
                      have NB209_210 := n14_
                      have GW210 := n15_
                      have GE210 := n16_
                      have NB191_210 := n17_
                      have NB210_191 := n18_
                      have NB192_210 := n19_
                      have NB210_192 := n20_
                      have NB202_210 := n21_
                      have NB210_202 := n22_
                      have HB := n23_
                      clear n0_ n1_ n2_ n3_ n4_ n5_ n6_ n7_ n8_ n9_ n10_ n11_ n12_ n13_ n14_ n15_ n16_ n17_ n18_ n19_ n20_ n21_ n22_ n23_
                      have hHeld : w32.cell? ⟨gb202, 0, none⟩ = some (.int .u32 a0_5) ∧ w32.cell? ⟨gb202, 1, none⟩ = some (.int .u32 a0_5) ∧ w32.cell? ⟨gb202, 2, none⟩ = some (.bool false) := hS_
                      refine norm_ (a' := ?_) ?_ ?_
                      rotate_left
                      · simp only [putAll, Act.put, List.setIfInBounds_toArray, List.set_cons_zero, List.set_cons_succ]
                        rfl
                      refine one_ (i := 4) (N := some 44) #[true, true, true, true, true, true, true, true, false, true, true, false, false] rfl rfl (one_of HT_.out (by kernel_rfl)) (by decide) (fun K hK => ?_)
                      refine goes_ Try.func16 (by kernel_rfl) rfl #[.agg #[.int .u32 a0_5, .int .u32 a0_5, .bool false], .int .i64 (wrap64 ((wrap64 (a0_5)) - 1))] (by rfl) rfl rfl (by (try simp only [List.map_toArray, List.map_cons, List.map_nil]); first | done | rfl | (simp only [List.length_drop, List.length_take]; rfl)) ?_
                      with_reducible refine (timer_Ticks.calls k a0_5 a0_5 false (wrap64 ((wrap64 (a0_5)) - 1)) t203 t204 false _ A7.out).mono ?_
                      rintro e w33 ⟨rfl, hb⟩
                      refine ⟨_, rfl, ?_⟩
                      have n0_ := Aside0.mk (blk_below (g := gb191) (o := .cells #[.int .u32 a0_0, .int .u32 a0_1, .bool a0_2, .int .i64 a0_3, .int .i64 a0_4, .int .u32 a0_5] 39 (0, 0)) (by (with_reducible repeat (first | refine blk_drewN ?_ _ | refine blk_drew ?_ | refine blk_alloc ?_ _)); exact BK191.out) hb)
                      have n1_ := Aside0.mk (blk_below (g := gb192) (o := .cells #[.int .u32 a0_0, .int .u32 a0_1, .bool a0_2] 24 (0, 0)) (by (with_reducible repeat (first | refine blk_drewN ?_ _ | refine blk_drew ?_ | refine blk_alloc ?_ _)); exact BK192.out) hb)
                      have n2_ := Aside0.mk (blk_below (g := gb202) (o := .cells #[.int .u32 a0_5, .int .u32 a0_5, .bool false] 24 (0, 0)) (by (with_reducible repeat (first | refine blk_drewN ?_ _ | refine blk_drew ?_ | refine blk_alloc ?_ _)); exact BK202.out) hb)
                      have n3_ := Aside0.mk (blk_below (g := gb209) (o := .cells #[.int .u32 0, .int .u32 0, .bool false] 24 (0, 0)) (by (with_reducible repeat (first | refine blk_drewN ?_ _ | refine blk_drew ?_ | refine blk_alloc ?_ _)); exact BK209.out) hb)
                      have n4_ := Aside0.mk (blk_below (g := gb210) (o := .cells #[.int .u32 0, .int .u32 0, .bool false] 24 (0, 0)) (by (with_reducible repeat (first | refine blk_drewN ?_ _ | refine blk_drew ?_ | refine blk_alloc ?_ _)); exact BK210.out) hb)
                      have n5_ := Aside0.mk (below_step (by repeat (first | (with_reducible first | exact HB.out | apply below_alloc | apply pw_below_drewN | apply below_drew1 | refine below_set ?_ GE191.out | refine below_set ?_ GE192.out | refine below_set ?_ GE202.out | refine below_set ?_ GE209.out | refine below_set ?_ GE210.out) | exact HB.out)) hb)
                      clear BK191
                      clear BK192
                      clear BK202
                      clear BK209
                      clear BK210
                      clear HB
                      have BK191 := n0_
                      have BK192 := n1_
                      have BK202 := n2_
                      have BK209 := n3_
                      have BK210 := n4_
                      have HB := n5_
                      clear n0_ n1_ n2_ n3_ n4_ n5_
                      (try clear hb)
                      (try clear hb2)
                      (try clear hk)
                      (try clear hi)
                      refine hK.out _ _ ⟨(blk_cell BK202.out 0).trans rfl, (blk_cell BK202.out 1).trans rfl, (blk_cell BK202.out 2).trans rfl⟩ (fun hHeld => ?_)
                      clear hK K
                      refine norm_ (a' := ?_) ?_ ?_
                      rotate_left
                      · show Act.put _ (some 44) _ = _
                        simp only [Act.put, List.setIfInBounds_toArray, List.set_cons_zero, List.set_cons_succ, i64_w, i32_w]
                        rfl
                      exact norm_ (by first | (simp only [putAll, Act.put, List.setIfInBounds_toArray, List.set_cons_zero, List.set_cons_succ]; done) | (simp only [putAll, Act.put, List.setIfInBounds_toArray, List.set_cons_zero, List.set_cons_succ]; rfl)) (hJ4_9_10 (gb209, gb210) _ ⟨hHeld, (by (with_reducible repeat (first | refine blk_drewN ?_ _ | refine blk_drew ?_ | refine blk_alloc ?_ _)); exact BK191.out), (by (with_reducible repeat (first | refine blk_drewN ?_ _ | refine blk_drew ?_ | refine blk_alloc ?_ _)); exact BK192.out), (by (with_reducible repeat (first | refine blk_drewN ?_ _ | refine blk_drew ?_ | refine blk_alloc ?_ _)); exact BK202.out), (by (with_reducible repeat (first | refine blk_drewN ?_ _ | refine blk_drew ?_ | refine blk_alloc ?_ _)); exact BK209.out), (by (with_reducible repeat (first | refine blk_drewN ?_ _ | refine blk_drew ?_ | refine blk_alloc ?_ _)); exact BK210.out), GW209.out, GE209.out, NB191_209.out, NB209_191.out, NB192_209.out, NB209_192.out, NB202_209.out, NB209_202.out, NB210_209.out, NB209_210.out, GW210.out, GE210.out, NB191_210.out, NB210_191.out, NB192_210.out, NB210_192.out, NB202_210.out, NB210_202.out, (by repeat (first | (with_reducible first | exact HB.out | apply below_alloc | apply pw_below_drewN | apply below_drew1 | refine below_set ?_ GE191.out | refine below_set ?_ GE192.out | refine below_set ?_ GE202.out | refine below_set ?_ GE209.out | refine below_set ?_ GE210.out) | exact HB.out))⟩)
                  · skip
                    rintro gb210 w32 ⟨hS_, h0_, h1_, h2_, h3_, h4_, h5_, h6_, h7_, h8_, h9_, h10_, h11_, h12_⟩
                    have n0_ : Aside0 (w32.heap[gb191]? = some (.cells #[.int .u32 a0_0, .int .u32 a0_1, .bool a0_2, .int .i64 a0_3, .int .i64 a0_4, .int .u32 a0_5] 39 (0, 0))) := ⟨h0_⟩
                    have n1_ : Aside0 (w32.heap[gb192]? = some (.cells #[.int .u32 a0_0, .int .u32 a0_1, .bool a0_2] 24 (0, 0))) := ⟨h1_⟩
                    have n2_ : Aside0 (w32.heap[gb202]? = some (.cells #[.int .u32 a0_5, .int .u32 a0_5, .bool false] 24 (0, 0))) := ⟨h2_⟩
                    have n3_ : Aside0 (w32.heap[gb210]? = some (.cells #[.int .u32 0, .int .u32 0, .bool false] 24 (0, 0))) := ⟨h3_⟩
                    have n4_ : Aside0 (w.heap.size ≤ gb210) := ⟨h4_⟩
                    have n5_ : Aside0 (w.heap.size ≤ gb210) := ⟨h5_⟩
                    have n6_ : Aside0 (gb191 ≠ gb210) := ⟨h6_⟩
                    have n7_ : Aside0 (gb210 ≠ gb191) := ⟨h7_⟩
                    have n8_ : Aside0 (gb192 ≠ gb210) := ⟨h8_⟩
                    have n9_ : Aside0 (gb210 ≠ gb192) := ⟨h9_⟩
                    have n10_ : Aside0 (gb202 ≠ gb210) := ⟨h10_⟩
                    have n11_ : Aside0 (gb210 ≠ gb202) := ⟨h11_⟩
                    have n12_ : Aside0 (Below w.heap.size w w32) := ⟨h12_⟩
                    clear BK191
                    clear BK192
                    clear BK202
                    clear HB
                    clear h0_ h1_ h2_ h3_ h4_ h5_ h6_ h7_ h8_ h9_ h10_ h11_ h12_
                    have BK191 := n0_
                    have BK192 := n1_
                    have BK202 := n2_
                    have BK210 := n3_
                    have GW210 := n4_
                    have GE210 := n5_
                    have NB191_210 := n6_
                    have NB210_191 := n7_
                    have NB192_210 := n8_
                    have NB210_192 := n9_
                    have NB202_210 := n10_
                    have NB210_202 := n11_
                    have HB := n12_
                    clear n0_ n1_ n2_ n3_ n4_ n5_ n6_ n7_ n8_ n9_ n10_ n11_ n12_
                    have hHeld : w32.cell? ⟨gb202, 0, none⟩ = some (.int .u32 a0_5) ∧ w32.cell? ⟨gb202, 1, none⟩ = some (.int .u32 a0_5) ∧ w32.cell? ⟨gb202, 2, none⟩ = some (.bool false) := hS_
                    refine norm_ (a' := ?_) ?_ ?_
                    rotate_left
                    · simp only [putAll, Act.put, List.setIfInBounds_toArray, List.set_cons_zero, List.set_cons_succ]
                      rfl
                    refine two_ (i := 8) (j := 9) (Ni := some 48) (Nj := some 9) #[true, true, true, true, true, true, true, true, true, false, true, false, false] #[true, true, true, true, true, true, true, true, false, true, true, false, false] rfl rfl rfl rfl (two_of HT_.out (by kernel_rfl)) (by decide) (by decide) (fun K hK => ?_) (fun K hK => ?_)
                    · skip
                      refine goes_ Try.func16 (by kernel_rfl) rfl #[.agg #[.int .u32 a0_5, .int .u32 a0_5, .bool false], .int .i64 (wrap64 (a0_5))] (by rfl) rfl rfl (by (try simp only [List.map_toArray, List.map_cons, List.map_nil]); first | done | rfl | (simp only [List.length_drop, List.length_take]; rfl)) ?_
                      with_reducible refine (timer_Ticks.calls k a0_5 a0_5 false (wrap64 (a0_5)) t206 t207 t208 _ A8.out).mono ?_
                      rintro e w33 ⟨rfl, hb⟩
                      refine ⟨_, rfl, ?_⟩
                      have n0_ := Aside0.mk (blk_below (g := gb191) (o := .cells #[.int .u32 a0_0, .int .u32 a0_1, .bool a0_2, .int .i64 a0_3, .int .i64 a0_4, .int .u32 a0_5] 39 (0, 0)) (by (with_reducible repeat (first | refine blk_drewN ?_ _ | refine blk_drew ?_ | refine blk_alloc ?_ _)); exact BK191.out) hb)
                      have n1_ := Aside0.mk (blk_below (g := gb192) (o := .cells #[.int .u32 a0_0, .int .u32 a0_1, .bool a0_2] 24 (0, 0)) (by (with_reducible repeat (first | refine blk_drewN ?_ _ | refine blk_drew ?_ | refine blk_alloc ?_ _)); exact BK192.out) hb)
                      have n2_ := Aside0.mk (blk_below (g := gb202) (o := .cells #[.int .u32 a0_5, .int .u32 a0_5, .bool false] 24 (0, 0)) (by (with_reducible repeat (first | refine blk_drewN ?_ _ | refine blk_drew ?_ | refine blk_alloc ?_ _)); exact BK202.out) hb)
                      have n3_ := Aside0.mk (blk_below (g := gb210) (o := .cells #[.int .u32 0, .int .u32 0, .bool false] 24 (0, 0)) (by (with_reducible repeat (first | refine blk_drewN ?_ _ | refine blk_drew ?_ | refine blk_alloc ?_ _)); exact BK210.out) hb)
                      have n4_ := Aside0.mk (below_step (by repeat (first | (with_reducible first | exact HB.out | apply below_alloc | apply pw_below_drewN | apply below_drew1 | refine below_set ?_ GE191.out | refine below_set ?_ GE192.out | refine below_set ?_ GE202.out | refine below_set ?_ GE210.out) | exact HB.out)) hb)
                      clear BK191
                      clear BK192
                      clear BK202
                      clear BK210
                      clear HB
                      have BK191 := n0_
                      have BK192 := n1_
                      have BK202 := n2_
                      have BK210 := n3_
                      have HB := n4_
                      clear n0_ n1_ n2_ n3_ n4_
                      (try clear hb)
                      (try clear hb2)
                      (try clear hk)
                      (try clear hi)
                      refine hK.out _ _ ⟨(blk_cell BK202.out 0).trans rfl, (blk_cell BK202.out 1).trans rfl, (blk_cell BK202.out 2).trans rfl⟩ (fun hHeld => ?_)
                      clear hK K
                      refine norm_ (a' := ?_) ?_ ?_
                      rotate_left
                      · show Act.put _ (some 48) _ = _
                        simp only [Act.put, List.setIfInBounds_toArray, List.set_cons_zero, List.set_cons_succ, i64_w, i32_w]
                        rfl
                      exact norm_ (by first | (simp only [putAll, Act.put, List.setIfInBounds_toArray, List.set_cons_zero, List.set_cons_succ]; done) | (simp only [putAll, Act.put, List.setIfInBounds_toArray, List.set_cons_zero, List.set_cons_succ]; rfl)) (hJ4_8_10 (gb210) _ ⟨hHeld, (by (with_reducible repeat (first | refine blk_drewN ?_ _ | refine blk_drew ?_ | refine blk_alloc ?_ _)); exact BK191.out), (by (with_reducible repeat (first | refine blk_drewN ?_ _ | refine blk_drew ?_ | refine blk_alloc ?_ _)); exact BK192.out), (by (with_reducible repeat (first | refine blk_drewN ?_ _ | refine blk_drew ?_ | refine blk_alloc ?_ _)); exact BK202.out), (by (with_reducible repeat (first | refine blk_drewN ?_ _ | refine blk_drew ?_ | refine blk_alloc ?_ _)); exact BK210.out), GW210.out, GE210.out, NB191_210.out, NB210_191.out, NB192_210.out, NB210_192.out, NB202_210.out, NB210_202.out, (by repeat (first | (with_reducible first | exact HB.out | apply below_alloc | apply pw_below_drewN | apply below_drew1 | refine below_set ?_ GE191.out | refine below_set ?_ GE192.out | refine below_set ?_ GE202.out | refine below_set ?_ GE210.out) | exact HB.out))⟩)
                    · skip
                      refine box_step ?hg (N := 9) ?hd (cs := #[.int .u32 0, .int .u32 0, .bool false]) (t := 24) ?hr ?_; (case hd => rfl); (case hg => rfl); (case hr => first | (go_simp; done) | (go_simp; rfl))
                      intro gb209 hg w33 hbox hb
                      have n0_ := Aside0.mk (blk_below (g := gb191) (o := .cells #[.int .u32 a0_0, .int .u32 a0_1, .bool a0_2, .int .i64 a0_3, .int .i64 a0_4, .int .u32 a0_5] 39 (0, 0)) (by (with_reducible repeat (first | refine blk_drewN ?_ _ | refine blk_drew ?_ | refine blk_alloc ?_ _)); exact BK191.out) hb)
                      have n1_ := Aside0.mk (blk_below (g := gb192) (o := .cells #[.int .u32 a0_0, .int .u32 a0_1, .bool a0_2] 24 (0, 0)) (by (with_reducible repeat (first | refine blk_drewN ?_ _ | refine blk_drew ?_ | refine blk_alloc ?_ _)); exact BK192.out) hb)
                      have n2_ := Aside0.mk (blk_below (g := gb202) (o := .cells #[.int .u32 a0_5, .int .u32 a0_5, .bool false] 24 (0, 0)) (by (with_reducible repeat (first | refine blk_drewN ?_ _ | refine blk_drew ?_ | refine blk_alloc ?_ _)); exact BK202.out) hb)
                      have n3_ := Aside0.mk (blk_below (g := gb210) (o := .cells #[.int .u32 0, .int .u32 0, .bool false] 24 (0, 0)) (by (with_reducible repeat (first | refine blk_drewN ?_ _ | refine blk_drew ?_ | refine blk_alloc ?_ _)); exact BK210.out) hb)
                      have n4_ := Aside0.mk (below_step (by repeat (first | (with_reducible first | exact HB.out | apply below_alloc | apply pw_below_drewN | apply below_drew1 | refine below_set ?_ GE191.out | refine below_set ?_ GE192.out | refine below_set ?_ GE202.out | refine below_set ?_ GE210.out) | exact HB.out)) hb)
                      have n5_ := Aside0.mk (hbox)
                      have n6_ := Aside0.mk ((by rw [hg]; exact (below_size (by repeat (first | (with_reducible first | exact HB.out | apply below_alloc | apply pw_below_drewN | apply below_drew1 | refine below_set ?_ GE191.out | refine below_set ?_ GE192.out | refine below_set ?_ GE202.out | refine below_set ?_ GE210.out) | exact HB.out))) : w.heap.size ≤ gb209))
                      have n7_ := Aside0.mk ((by rw [hg]; exact (below_size (by repeat (first | (with_reducible first | exact HB.out | apply below_alloc | apply pw_below_drewN | apply below_drew1 | refine below_set ?_ GE191.out | refine below_set ?_ GE192.out | refine below_set ?_ GE202.out | refine below_set ?_ GE210.out) | exact HB.out))) : w.heap.size ≤ gb209))
                      have n8_ := Aside0.mk ((by rw [hg]; exact Nat.ne_of_lt (blk_lt (g := gb191) (o := .cells #[.int .u32 a0_0, .int .u32 a0_1, .bool a0_2, .int .i64 a0_3, .int .i64 a0_4, .int .u32 a0_5] 39 (0, 0)) (by (with_reducible repeat (first | refine blk_drewN ?_ _ | refine blk_drew ?_ | refine blk_alloc ?_ _)); exact BK191.out)) : gb191 ≠ gb209))
                      have n9_ := Aside0.mk ((by rw [hg]; exact Nat.ne_of_gt (blk_lt (g := gb191) (o := .cells #[.int .u32 a0_0, .int .u32 a0_1, .bool a0_2, .int .i64 a0_3, .int .i64 a0_4, .int .u32 a0_5] 39 (0, 0)) (by (with_reducible repeat (first | refine blk_drewN ?_ _ | refine blk_drew ?_ | refine blk_alloc ?_ _)); exact BK191.out)) : gb209 ≠ gb191))
                      have n10_ := Aside0.mk ((by rw [hg]; exact Nat.ne_of_lt (blk_lt (g := gb192) (o := .cells #[.int .u32 a0_0, .int .u32 a0_1, .bool a0_2] 24 (0, 0)) (by (with_reducible repeat (first | refine blk_drewN ?_ _ | refine blk_drew ?_ | refine blk_alloc ?_ _)); exact BK192.out)) : gb192 ≠ gb209))
                      have n11_ := Aside0.mk ((by rw [hg]; exact Nat.ne_of_gt (blk_lt (g := gb192) (o := .cells #[.int .u32 a0_0, .int .u32 a0_1, .bool a0_2] 24 (0, 0)) (by (with_reducible repeat (first | refine blk_drewN ?_ _ | refine blk_drew ?_ | refine blk_alloc ?_ _)); exact BK192.out)) : gb209 ≠ gb192))
                      have n12_ := Aside0.mk ((by rw [hg]; exact Nat.ne_of_lt (blk_lt (g := gb202) (o := .cells #[.int .u32 a0_5, .int .u32 a0_5, .bool false] 24 (0, 0)) (by (with_reducible repeat (first | refine blk_drewN ?_ _ | refine blk_drew ?_ | refine blk_alloc ?_ _)); exact BK202.out)) : gb202 ≠ gb209))
                      have n13_ := Aside0.mk ((by rw [hg]; exact Nat.ne_of_gt (blk_lt (g := gb202) (o := .cells #[.int .u32 a0_5, .int .u32 a0_5, .bool false] 24 (0, 0)) (by (with_reducible repeat (first | refine blk_drewN ?_ _ | refine blk_drew ?_ | refine blk_alloc ?_ _)); exact BK202.out)) : gb209 ≠ gb202))
                      have n14_ := Aside0.mk ((by rw [hg]; exact Nat.ne_of_lt (blk_lt (g := gb210) (o := .cells #[.int .u32 0, .int .u32 0, .bool false] 24 (0, 0)) (by (with_reducible repeat (first | refine blk_drewN ?_ _ | refine blk_drew ?_ | refine blk_alloc ?_ _)); exact BK210.out)) : gb210 ≠ gb209))
                      have n15_ := Aside0.mk ((by rw [hg]; exact Nat.ne_of_gt (blk_lt (g := gb210) (o := .cells #[.int .u32 0, .int .u32 0, .bool false] 24 (0, 0)) (by (with_reducible repeat (first | refine blk_drewN ?_ _ | refine blk_drew ?_ | refine blk_alloc ?_ _)); exact BK210.out)) : gb209 ≠ gb210))
                      clear BK191
                      clear BK192
                      clear BK202
                      clear BK210
                      clear HB
                      have BK191 := n0_
                      have BK192 := n1_
                      have BK202 := n2_
                      have BK210 := n3_
                      have HB := n4_
                      have BK209 := n5_
                      have GW209 := n6_
                      have GE209 := n7_
                      have NB191_209 := n8_
                      have NB209_191 := n9_
                      have NB192_209 := n10_
                      have NB209_192 := n11_
                      have NB202_209 := n12_
                      have NB209_202 := n13_
                      have NB210_209 := n14_
                      have NB209_210 := n15_
                      clear n0_ n1_ n2_ n3_ n4_ n5_ n6_ n7_ n8_ n9_ n10_ n11_ n12_ n13_ n14_ n15_
                      clear hb hbox hg
                      refine hK.out _ _ ⟨(blk_cell BK202.out 0).trans rfl, (blk_cell BK202.out 1).trans rfl, (blk_cell BK202.out 2).trans rfl⟩ (fun hHeld => ?_)
                      clear hK K
                      refine norm_ (a' := ?_) ?_ ?_
                      rotate_left
                      · show Act.put _ (some 9) _ = _
                        simp only [Act.put, List.setIfInBounds_toArray, List.set_cons_zero, List.set_cons_succ, i64_w, i32_w]
                        rfl
                      exact norm_ (by first | (simp only [putAll, Act.put, List.setIfInBounds_toArray, List.set_cons_zero, List.set_cons_succ]; done) | (simp only [putAll, Act.put, List.setIfInBounds_toArray, List.set_cons_zero, List.set_cons_succ]; rfl)) (hJ4_9_10 (gb209, gb210) _ ⟨hHeld, (by (with_reducible repeat (first | refine blk_drewN ?_ _ | refine blk_drew ?_ | refine blk_alloc ?_ _)); exact BK191.out), (by (with_reducible repeat (first | refine blk_drewN ?_ _ | refine blk_drew ?_ | refine blk_alloc ?_ _)); exact BK192.out), (by (with_reducible repeat (first | refine blk_drewN ?_ _ | refine blk_drew ?_ | refine blk_alloc ?_ _)); exact BK202.out), (by (with_reducible repeat (first | refine blk_drewN ?_ _ | refine blk_drew ?_ | refine blk_alloc ?_ _)); exact BK209.out), (by (with_reducible repeat (first | refine blk_drewN ?_ _ | refine blk_drew ?_ | refine blk_alloc ?_ _)); exact BK210.out), GW209.out, GE209.out, NB191_209.out, NB209_191.out, NB192_209.out, NB209_192.out, NB202_209.out, NB209_202.out, NB210_209.out, NB209_210.out, GW210.out, GE210.out, NB191_210.out, NB210_191.out, NB192_210.out, NB210_192.out, NB202_210.out, NB210_202.out, (by repeat (first | (with_reducible first | exact HB.out | apply below_alloc | apply pw_below_drewN | apply below_drew1 | refine below_set ?_ GE191.out | refine below_set ?_ GE192.out | refine below_set ?_ GE202.out | refine below_set ?_ GE210.out | refine below_set ?_ GE209.out) | exact HB.out))⟩)
                · skip
                  rintro gb209 w32 ⟨hS_, h0_, h1_, h2_, h3_, h4_, h5_, h6_, h7_, h8_, h9_, h10_, h11_, h12_⟩
                  have n0_ : Aside0 (w32.heap[gb191]? = some (.cells #[.int .u32 a0_0, .int .u32 a0_1, .bool a0_2, .int .i64 a0_3, .int .i64 a0_4, .int .u32 a0_5] 39 (0, 0))) := ⟨h0_⟩
                  have n1_ : Aside0 (w32.heap[gb192]? = some (.cells #[.int .u32 a0_0, .int .u32 a0_1, .bool a0_2] 24 (0, 0))) := ⟨h1_⟩
                  have n2_ : Aside0 (w32.heap[gb202]? = some (.cells #[.int .u32 a0_5, .int .u32 a0_5, .bool false] 24 (0, 0))) := ⟨h2_⟩
                  have n3_ : Aside0 (w32.heap[gb209]? = some (.cells #[.int .u32 0, .int .u32 0, .bool false] 24 (0, 0))) := ⟨h3_⟩
                  have n4_ : Aside0 (w.heap.size ≤ gb209) := ⟨h4_⟩
                  have n5_ : Aside0 (w.heap.size ≤ gb209) := ⟨h5_⟩
                  have n6_ : Aside0 (gb191 ≠ gb209) := ⟨h6_⟩
                  have n7_ : Aside0 (gb209 ≠ gb191) := ⟨h7_⟩
                  have n8_ : Aside0 (gb192 ≠ gb209) := ⟨h8_⟩
                  have n9_ : Aside0 (gb209 ≠ gb192) := ⟨h9_⟩
                  have n10_ : Aside0 (gb202 ≠ gb209) := ⟨h10_⟩
                  have n11_ : Aside0 (gb209 ≠ gb202) := ⟨h11_⟩
                  have n12_ : Aside0 (Below w.heap.size w w32) := ⟨h12_⟩
                  clear BK191
                  clear BK192
                  clear BK202
                  clear HB
                  clear h0_ h1_ h2_ h3_ h4_ h5_ h6_ h7_ h8_ h9_ h10_ h11_ h12_
                  have BK191 := n0_
                  have BK192 := n1_
                  have BK202 := n2_
                  have BK209 := n3_
                  have GW209 := n4_
                  have GE209 := n5_
                  have NB191_209 := n6_
                  have NB209_191 := n7_
                  have NB192_209 := n8_
                  have NB209_192 := n9_
                  have NB202_209 := n10_
                  have NB209_202 := n11_
                  have HB := n12_
                  clear n0_ n1_ n2_ n3_ n4_ n5_ n6_ n7_ n8_ n9_ n10_ n11_ n12_
                  have hHeld : w32.cell? ⟨gb202, 0, none⟩ = some (.int .u32 a0_5) ∧ w32.cell? ⟨gb202, 1, none⟩ = some (.int .u32 a0_5) ∧ w32.cell? ⟨gb202, 2, none⟩ = some (.bool false) := hS_
                  refine norm_ (a' := ?_) ?_ ?_
                  rotate_left
                  · simp only [putAll, Act.put, List.setIfInBounds_toArray, List.set_cons_zero, List.set_cons_succ]
                    rfl
                  refine two_ (i := 8) (j := 10) (Ni := some 48) (Nj := some 10) #[true, true, true, true, true, true, true, true, true, true, false, false, false] #[true, true, true, true, true, true, true, true, false, true, true, false, false] rfl rfl rfl rfl (two_of HT_.out (by kernel_rfl)) (by decide) (by decide) (fun K hK => ?_) (fun K hK => ?_)
                  · skip
                    refine goes_ Try.func16 (by kernel_rfl) rfl #[.agg #[.int .u32 a0_5, .int .u32 a0_5, .bool false], .int .i64 (wrap64 (a0_5))] (by rfl) rfl rfl (by (try simp only [List.map_toArray, List.map_cons, List.map_nil]); first | done | rfl | (simp only [List.length_drop, List.length_take]; rfl)) ?_
                    with_reducible refine (timer_Ticks.calls k a0_5 a0_5 false (wrap64 (a0_5)) t206 t207 t208 _ A8.out).mono ?_
                    rintro e w33 ⟨rfl, hb⟩
                    refine ⟨_, rfl, ?_⟩
                    have n0_ := Aside0.mk (blk_below (g := gb191) (o := .cells #[.int .u32 a0_0, .int .u32 a0_1, .bool a0_2, .int .i64 a0_3, .int .i64 a0_4, .int .u32 a0_5] 39 (0, 0)) (by (with_reducible repeat (first | refine blk_drewN ?_ _ | refine blk_drew ?_ | refine blk_alloc ?_ _)); exact BK191.out) hb)
                    have n1_ := Aside0.mk (blk_below (g := gb192) (o := .cells #[.int .u32 a0_0, .int .u32 a0_1, .bool a0_2] 24 (0, 0)) (by (with_reducible repeat (first | refine blk_drewN ?_ _ | refine blk_drew ?_ | refine blk_alloc ?_ _)); exact BK192.out) hb)
                    have n2_ := Aside0.mk (blk_below (g := gb202) (o := .cells #[.int .u32 a0_5, .int .u32 a0_5, .bool false] 24 (0, 0)) (by (with_reducible repeat (first | refine blk_drewN ?_ _ | refine blk_drew ?_ | refine blk_alloc ?_ _)); exact BK202.out) hb)
                    have n3_ := Aside0.mk (blk_below (g := gb209) (o := .cells #[.int .u32 0, .int .u32 0, .bool false] 24 (0, 0)) (by (with_reducible repeat (first | refine blk_drewN ?_ _ | refine blk_drew ?_ | refine blk_alloc ?_ _)); exact BK209.out) hb)
                    have n4_ := Aside0.mk (below_step (by repeat (first | (with_reducible first | exact HB.out | apply below_alloc | apply pw_below_drewN | apply below_drew1 | refine below_set ?_ GE191.out | refine below_set ?_ GE192.out | refine below_set ?_ GE202.out | refine below_set ?_ GE209.out) | exact HB.out)) hb)
                    clear BK191
                    clear BK192
                    clear BK202
                    clear BK209
                    clear HB
                    have BK191 := n0_
                    have BK192 := n1_
                    have BK202 := n2_
                    have BK209 := n3_
                    have HB := n4_
                    clear n0_ n1_ n2_ n3_ n4_
                    (try clear hb)
                    (try clear hb2)
                    (try clear hk)
                    (try clear hi)
                    refine hK.out _ _ ⟨(blk_cell BK202.out 0).trans rfl, (blk_cell BK202.out 1).trans rfl, (blk_cell BK202.out 2).trans rfl⟩ (fun hHeld => ?_)
                    clear hK K
                    refine norm_ (a' := ?_) ?_ ?_
                    rotate_left
                    · show Act.put _ (some 48) _ = _
                      simp only [Act.put, List.setIfInBounds_toArray, List.set_cons_zero, List.set_cons_succ, i64_w, i32_w]
                      rfl
                    exact norm_ (by first | (simp only [putAll, Act.put, List.setIfInBounds_toArray, List.set_cons_zero, List.set_cons_succ]; done) | (simp only [putAll, Act.put, List.setIfInBounds_toArray, List.set_cons_zero, List.set_cons_succ]; rfl)) (hJ4_8_9 (gb209) _ ⟨hHeld, (by (with_reducible repeat (first | refine blk_drewN ?_ _ | refine blk_drew ?_ | refine blk_alloc ?_ _)); exact BK191.out), (by (with_reducible repeat (first | refine blk_drewN ?_ _ | refine blk_drew ?_ | refine blk_alloc ?_ _)); exact BK192.out), (by (with_reducible repeat (first | refine blk_drewN ?_ _ | refine blk_drew ?_ | refine blk_alloc ?_ _)); exact BK202.out), (by (with_reducible repeat (first | refine blk_drewN ?_ _ | refine blk_drew ?_ | refine blk_alloc ?_ _)); exact BK209.out), GW209.out, GE209.out, NB191_209.out, NB209_191.out, NB192_209.out, NB209_192.out, NB202_209.out, NB209_202.out, (by repeat (first | (with_reducible first | exact HB.out | apply below_alloc | apply pw_below_drewN | apply below_drew1 | refine below_set ?_ GE191.out | refine below_set ?_ GE192.out | refine below_set ?_ GE202.out | refine below_set ?_ GE209.out) | exact HB.out))⟩)
                  · skip
                    refine box_step ?hg (N := 10) ?hd (cs := #[.int .u32 0, .int .u32 0, .bool false]) (t := 24) ?hr ?_; (case hd => rfl); (case hg => rfl); (case hr => first | (go_simp; done) | (go_simp; rfl))
                    intro gb210 hg w33 hbox hb
                    have n0_ := Aside0.mk (blk_below (g := gb191) (o := .cells #[.int .u32 a0_0, .int .u32 a0_1, .bool a0_2, .int .i64 a0_3, .int .i64 a0_4, .int .u32 a0_5] 39 (0, 0)) (by (with_reducible repeat (first | refine blk_drewN ?_ _ | refine blk_drew ?_ | refine blk_alloc ?_ _)); exact BK191.out) hb)
                    have n1_ := Aside0.mk (blk_below (g := gb192) (o := .cells #[.int .u32 a0_0, .int .u32 a0_1, .bool a0_2] 24 (0, 0)) (by (with_reducible repeat (first | refine blk_drewN ?_ _ | refine blk_drew ?_ | refine blk_alloc ?_ _)); exact BK192.out) hb)
                    have n2_ := Aside0.mk (blk_below (g := gb202) (o := .cells #[.int .u32 a0_5, .int .u32 a0_5, .bool false] 24 (0, 0)) (by (with_reducible repeat (first | refine blk_drewN ?_ _ | refine blk_drew ?_ | refine blk_alloc ?_ _)); exact BK202.out) hb)
                    have n3_ := Aside0.mk (blk_below (g := gb209) (o := .cells #[.int .u32 0, .int .u32 0, .bool false] 24 (0, 0)) (by (with_reducible repeat (first | refine blk_drewN ?_ _ | refine blk_drew ?_ | refine blk_alloc ?_ _)); exact BK209.out) hb)
                    have n4_ := Aside0.mk (below_step (by repeat (first | (with_reducible first | exact HB.out | apply below_alloc | apply pw_below_drewN | apply below_drew1 | refine below_set ?_ GE191.out | refine below_set ?_ GE192.out | refine below_set ?_ GE202.out | refine below_set ?_ GE209.out) | exact HB.out)) hb)
                    have n5_ := Aside0.mk (hbox)
                    have n6_ := Aside0.mk ((by rw [hg]; exact (below_size (by repeat (first | (with_reducible first | exact HB.out | apply below_alloc | apply pw_below_drewN | apply below_drew1 | refine below_set ?_ GE191.out | refine below_set ?_ GE192.out | refine below_set ?_ GE202.out | refine below_set ?_ GE209.out) | exact HB.out))) : w.heap.size ≤ gb210))
                    have n7_ := Aside0.mk ((by rw [hg]; exact (below_size (by repeat (first | (with_reducible first | exact HB.out | apply below_alloc | apply pw_below_drewN | apply below_drew1 | refine below_set ?_ GE191.out | refine below_set ?_ GE192.out | refine below_set ?_ GE202.out | refine below_set ?_ GE209.out) | exact HB.out))) : w.heap.size ≤ gb210))
                    have n8_ := Aside0.mk ((by rw [hg]; exact Nat.ne_of_lt (blk_lt (g := gb191) (o := .cells #[.int .u32 a0_0, .int .u32 a0_1, .bool a0_2, .int .i64 a0_3, .int .i64 a0_4, .int .u32 a0_5] 39 (0, 0)) (by (with_reducible repeat (first | refine blk_drewN ?_ _ | refine blk_drew ?_ | refine blk_alloc ?_ _)); exact BK191.out)) : gb191 ≠ gb210))
                    have n9_ := Aside0.mk ((by rw [hg]; exact Nat.ne_of_gt (blk_lt (g := gb191) (o := .cells #[.int .u32 a0_0, .int .u32 a0_1, .bool a0_2, .int .i64 a0_3, .int .i64 a0_4, .int .u32 a0_5] 39 (0, 0)) (by (with_reducible repeat (first | refine blk_drewN ?_ _ | refine blk_drew ?_ | refine blk_alloc ?_ _)); exact BK191.out)) : gb210 ≠ gb191))
                    have n10_ := Aside0.mk ((by rw [hg]; exact Nat.ne_of_lt (blk_lt (g := gb192) (o := .cells #[.int .u32 a0_0, .int .u32 a0_1, .bool a0_2] 24 (0, 0)) (by (with_reducible repeat (first | refine blk_drewN ?_ _ | refine blk_drew ?_ | refine blk_alloc ?_ _)); exact BK192.out)) : gb192 ≠ gb210))
                    have n11_ := Aside0.mk ((by rw [hg]; exact Nat.ne_of_gt (blk_lt (g := gb192) (o := .cells #[.int .u32 a0_0, .int .u32 a0_1, .bool a0_2] 24 (0, 0)) (by (with_reducible repeat (first | refine blk_drewN ?_ _ | refine blk_drew ?_ | refine blk_alloc ?_ _)); exact BK192.out)) : gb210 ≠ gb192))
                    have n12_ := Aside0.mk ((by rw [hg]; exact Nat.ne_of_lt (blk_lt (g := gb202) (o := .cells #[.int .u32 a0_5, .int .u32 a0_5, .bool false] 24 (0, 0)) (by (with_reducible repeat (first | refine blk_drewN ?_ _ | refine blk_drew ?_ | refine blk_alloc ?_ _)); exact BK202.out)) : gb202 ≠ gb210))
                    have n13_ := Aside0.mk ((by rw [hg]; exact Nat.ne_of_gt (blk_lt (g := gb202) (o := .cells #[.int .u32 a0_5, .int .u32 a0_5, .bool false] 24 (0, 0)) (by (with_reducible repeat (first | refine blk_drewN ?_ _ | refine blk_drew ?_ | refine blk_alloc ?_ _)); exact BK202.out)) : gb210 ≠ gb202))
                    have n14_ := Aside0.mk ((by rw [hg]; exact Nat.ne_of_lt (blk_lt (g := gb209) (o := .cells #[.int .u32 0, .int .u32 0, .bool false] 24 (0, 0)) (by (with_reducible repeat (first | refine blk_drewN ?_ _ | refine blk_drew ?_ | refine blk_alloc ?_ _)); exact BK209.out)) : gb209 ≠ gb210))
                    have n15_ := Aside0.mk ((by rw [hg]; exact Nat.ne_of_gt (blk_lt (g := gb209) (o := .cells #[.int .u32 0, .int .u32 0, .bool false] 24 (0, 0)) (by (with_reducible repeat (first | refine blk_drewN ?_ _ | refine blk_drew ?_ | refine blk_alloc ?_ _)); exact BK209.out)) : gb210 ≠ gb209))
                    clear BK191
                    clear BK192
                    clear BK202
                    clear BK209
                    clear HB
                    have BK191 := n0_
                    have BK192 := n1_
                    have BK202 := n2_
                    have BK209 := n3_
                    have HB := n4_
                    have BK210 := n5_
                    have GW210 := n6_
                    have GE210 := n7_
                    have NB191_210 := n8_
                    have NB210_191 := n9_
                    have NB192_210 := n10_
                    have NB210_192 := n11_
                    have NB202_210 := n12_
                    have NB210_202 := n13_
                    have NB209_210 := n14_
                    have NB210_209 := n15_
                    clear n0_ n1_ n2_ n3_ n4_ n5_ n6_ n7_ n8_ n9_ n10_ n11_ n12_ n13_ n14_ n15_
                    clear hb hbox hg
                    refine hK.out _ _ ⟨(blk_cell BK202.out 0).trans rfl, (blk_cell BK202.out 1).trans rfl, (blk_cell BK202.out 2).trans rfl⟩ (fun hHeld => ?_)
                    clear hK K
                    refine norm_ (a' := ?_) ?_ ?_
                    rotate_left
                    · show Act.put _ (some 10) _ = _
                      simp only [Act.put, List.setIfInBounds_toArray, List.set_cons_zero, List.set_cons_succ, i64_w, i32_w]
                      rfl
                    exact norm_ (by first | (simp only [putAll, Act.put, List.setIfInBounds_toArray, List.set_cons_zero, List.set_cons_succ]; done) | (simp only [putAll, Act.put, List.setIfInBounds_toArray, List.set_cons_zero, List.set_cons_succ]; rfl)) (hJ4_9_10 (gb209, gb210) _ ⟨hHeld, (by (with_reducible repeat (first | refine blk_drewN ?_ _ | refine blk_drew ?_ | refine blk_alloc ?_ _)); exact BK191.out), (by (with_reducible repeat (first | refine blk_drewN ?_ _ | refine blk_drew ?_ | refine blk_alloc ?_ _)); exact BK192.out), (by (with_reducible repeat (first | refine blk_drewN ?_ _ | refine blk_drew ?_ | refine blk_alloc ?_ _)); exact BK202.out), (by (with_reducible repeat (first | refine blk_drewN ?_ _ | refine blk_drew ?_ | refine blk_alloc ?_ _)); exact BK209.out), (by (with_reducible repeat (first | refine blk_drewN ?_ _ | refine blk_drew ?_ | refine blk_alloc ?_ _)); exact BK210.out), GW209.out, GE209.out, NB191_209.out, NB209_191.out, NB192_209.out, NB209_192.out, NB202_209.out, NB209_202.out, NB210_209.out, NB209_210.out, GW210.out, GE210.out, NB191_210.out, NB210_191.out, NB192_210.out, NB210_192.out, NB202_210.out, NB210_202.out, (by repeat (first | (with_reducible first | exact HB.out | apply below_alloc | apply pw_below_drewN | apply below_drew1 | refine below_set ?_ GE191.out | refine below_set ?_ GE192.out | refine below_set ?_ GE202.out | refine below_set ?_ GE209.out | refine below_set ?_ GE210.out) | exact HB.out))⟩)
              · skip
                rintro _ w32 ⟨hS_, h0_, h1_, h2_, h3_⟩
                have n0_ : Aside0 (w32.heap[gb191]? = some (.cells #[.int .u32 a0_0, .int .u32 a0_1, .bool a0_2, .int .i64 a0_3, .int .i64 a0_4, .int .u32 a0_5] 39 (0, 0))) := ⟨h0_⟩
                have n1_ : Aside0 (w32.heap[gb192]? = some (.cells #[.int .u32 a0_0, .int .u32 a0_1, .bool a0_2] 24 (0, 0))) := ⟨h1_⟩
                have n2_ : Aside0 (w32.heap[gb202]? = some (.cells #[.int .u32 a0_5, .int .u32 a0_5, .bool false] 24 (0, 0))) := ⟨h2_⟩
                have n3_ : Aside0 (Below w.heap.size w w32) := ⟨h3_⟩
                clear BK191
                clear BK192
                clear BK202
                clear HB
                clear h0_ h1_ h2_ h3_
                have BK191 := n0_
                have BK192 := n1_
                have BK202 := n2_
                have HB := n3_
                clear n0_ n1_ n2_ n3_
                have hHeld : w32.cell? ⟨gb202, 0, none⟩ = some (.int .u32 a0_5) ∧ w32.cell? ⟨gb202, 1, none⟩ = some (.int .u32 a0_5) ∧ w32.cell? ⟨gb202, 2, none⟩ = some (.bool false) := hS_
                refine norm_ (a' := ?_) ?_ ?_
                rotate_left
                · simp only [putAll, Act.put, List.setIfInBounds_toArray, List.set_cons_zero, List.set_cons_succ]
                  rfl
                refine two_ (i := 9) (j := 10) (Ni := some 9) (Nj := some 10) #[true, true, true, true, true, true, true, true, true, true, false, false, false] #[true, true, true, true, true, true, true, true, true, false, true, false, false] rfl rfl rfl rfl (two_of HT_.out (by kernel_rfl)) (by decide) (by decide) (fun K hK => ?_) (fun K hK => ?_)
                · skip
                  refine box_step ?hg (N := 9) ?hd (cs := #[.int .u32 0, .int .u32 0, .bool false]) (t := 24) ?hr ?_; (case hd => rfl); (case hg => rfl); (case hr => first | (go_simp; done) | (go_simp; rfl))
                  intro gb209 hg w33 hbox hb
                  have n0_ := Aside0.mk (blk_below (g := gb191) (o := .cells #[.int .u32 a0_0, .int .u32 a0_1, .bool a0_2, .int .i64 a0_3, .int .i64 a0_4, .int .u32 a0_5] 39 (0, 0)) (by (with_reducible repeat (first | refine blk_drewN ?_ _ | refine blk_drew ?_ | refine blk_alloc ?_ _)); exact BK191.out) hb)
                  have n1_ := Aside0.mk (blk_below (g := gb192) (o := .cells #[.int .u32 a0_0, .int .u32 a0_1, .bool a0_2] 24 (0, 0)) (by (with_reducible repeat (first | refine blk_drewN ?_ _ | refine blk_drew ?_ | refine blk_alloc ?_ _)); exact BK192.out) hb)
                  have n2_ := Aside0.mk (blk_below (g := gb202) (o := .cells #[.int .u32 a0_5, .int .u32 a0_5, .bool false] 24 (0, 0)) (by (with_reducible repeat (first | refine blk_drewN ?_ _ | refine blk_drew ?_ | refine blk_alloc ?_ _)); exact BK202.out) hb)
                  have n3_ := Aside0.mk (below_step (by repeat (first | (with_reducible first | exact HB.out | apply below_alloc | apply pw_below_drewN | apply below_drew1 | refine below_set ?_ GE191.out | refine below_set ?_ GE192.out | refine below_set ?_ GE202.out) | exact HB.out)) hb)
                  have n4_ := Aside0.mk (hbox)
                  have n5_ := Aside0.mk ((by rw [hg]; exact (below_size (by repeat (first | (with_reducible first | exact HB.out | apply below_alloc | apply pw_below_drewN | apply below_drew1 | refine below_set ?_ GE191.out | refine below_set ?_ GE192.out | refine below_set ?_ GE202.out) | exact HB.out))) : w.heap.size ≤ gb209))
                  have n6_ := Aside0.mk ((by rw [hg]; exact (below_size (by repeat (first | (with_reducible first | exact HB.out | apply below_alloc | apply pw_below_drewN | apply below_drew1 | refine below_set ?_ GE191.out | refine below_set ?_ GE192.out | refine below_set ?_ GE202.out) | exact HB.out))) : w.heap.size ≤ gb209))
                  have n7_ := Aside0.mk ((by rw [hg]; exact Nat.ne_of_lt (blk_lt (g := gb191) (o := .cells #[.int .u32 a0_0, .int .u32 a0_1, .bool a0_2, .int .i64 a0_3, .int .i64 a0_4, .int .u32 a0_5] 39 (0, 0)) (by (with_reducible repeat (first | refine blk_drewN ?_ _ | refine blk_drew ?_ | refine blk_alloc ?_ _)); exact BK191.out)) : gb191 ≠ gb209))
                  have n8_ := Aside0.mk ((by rw [hg]; exact Nat.ne_of_gt (blk_lt (g := gb191) (o := .cells #[.int .u32 a0_0, .int .u32 a0_1, .bool a0_2, .int .i64 a0_3, .int .i64 a0_4, .int .u32 a0_5] 39 (0, 0)) (by (with_reducible repeat (first | refine blk_drewN ?_ _ | refine blk_drew ?_ | refine blk_alloc ?_ _)); exact BK191.out)) : gb209 ≠ gb191))
                  have n9_ := Aside0.mk ((by rw [hg]; exact Nat.ne_of_lt (blk_lt (g := gb192) (o := .cells #[.int .u32 a0_0, .int .u32 a0_1, .bool a0_2] 24 (0, 0)) (by (with_reducible repeat (first | refine blk_drewN ?_ _ | refine blk_drew ?_ | refine blk_alloc ?_ _)); exact BK192.out)) : gb192 ≠ gb209))
                  have n10_ := Aside0.mk ((by rw [hg]; exact Nat.ne_of_gt (blk_lt (g := gb192) (o := .cells #[.int .u32 a0_0, .int .u32 a0_1, .bool a0_2] 24 (0, 0)) (by (with_reducible repeat (first | refine blk_drewN ?_ _ | refine blk_drew ?_ | refine blk_alloc ?_ _)); exact BK192.out)) : gb209 ≠ gb192))
                  have n11_ := Aside0.mk ((by rw [hg]; exact Nat.ne_of_lt (blk_lt (g := gb202) (o := .cells #[.int .u32 a0_5, .int .u32 a0_5, .bool false] 24 (0, 0)) (by (with_reducible repeat (first | refine blk_drewN ?_ _ | refine blk_drew ?_ | refine blk_alloc ?_ _)); exact BK202.out)) : gb202 ≠ gb209))
                  have n12_ := Aside0.mk ((by rw [hg]; exact Nat.ne_of_gt (blk_lt (g := gb202) (o := .cells #[.int .u32 a0_5, .int .u32 a0_5, .bool false] 24 (0, 0)) (by (with_reducible repeat (first | refine blk_drewN ?_ _ | refine blk_drew ?_ | refine blk_alloc ?_ _)); exact BK202.out)) : gb209 ≠ gb202))
                  clear BK191
                  clear BK192
                  clear BK202
                  clear HB
                  have BK191 := n0_
                  have BK192 := n1_
                  have BK202 := n2_
                  have HB := n3_
                  have BK209 := n4_
                  have GW209 := n5_
                  have GE209 := n6_
                  have NB191_209 := n7_
                  have NB209_191 := n8_
                  have NB192_209 := n9_
                  have NB209_192 := n10_
                  have NB202_209 := n11_
                  have NB209_202 := n12_
                  clear n0_ n1_ n2_ n3_ n4_ n5_ n6_ n7_ n8_ n9_ n10_ n11_ n12_
                  clear hb hbox hg
                  refine hK.out _ _ ⟨(blk_cell BK202.out 0).trans rfl, (blk_cell BK202.out 1).trans rfl, (blk_cell BK202.out 2).trans rfl⟩ (fun hHeld => ?_)
                  clear hK K
                  refine norm_ (a' := ?_) ?_ ?_
                  rotate_left
                  · show Act.put _ (some 9) _ = _
                    simp only [Act.put, List.setIfInBounds_toArray, List.set_cons_zero, List.set_cons_succ, i64_w, i32_w]
                    rfl
                  exact norm_ (by first | (simp only [putAll, Act.put, List.setIfInBounds_toArray, List.set_cons_zero, List.set_cons_succ]; done) | (simp only [putAll, Act.put, List.setIfInBounds_toArray, List.set_cons_zero, List.set_cons_succ]; rfl)) (hJ4_8_9 (gb209) _ ⟨hHeld, (by (with_reducible repeat (first | refine blk_drewN ?_ _ | refine blk_drew ?_ | refine blk_alloc ?_ _)); exact BK191.out), (by (with_reducible repeat (first | refine blk_drewN ?_ _ | refine blk_drew ?_ | refine blk_alloc ?_ _)); exact BK192.out), (by (with_reducible repeat (first | refine blk_drewN ?_ _ | refine blk_drew ?_ | refine blk_alloc ?_ _)); exact BK202.out), (by (with_reducible repeat (first | refine blk_drewN ?_ _ | refine blk_drew ?_ | refine blk_alloc ?_ _)); exact BK209.out), GW209.out, GE209.out, NB191_209.out, NB209_191.out, NB192_209.out, NB209_192.out, NB202_209.out, NB209_202.out, (by repeat (first | (with_reducible first | exact HB.out | apply below_alloc | apply pw_below_drewN | apply below_drew1 | refine below_set ?_ GE191.out | refine below_set ?_ GE192.out | refine below_set ?_ GE202.out | refine below_set ?_ GE209.out) | exact HB.out))⟩)
                · skip
                  refine box_step ?hg (N := 10) ?hd (cs := #[.int .u32 0, .int .u32 0, .bool false]) (t := 24) ?hr ?_; (case hd => rfl); (case hg => rfl); (case hr => first | (go_simp; done) | (go_simp; rfl))
                  intro gb210 hg w33 hbox hb
                  have n0_ := Aside0.mk (blk_below (g := gb191) (o := .cells #[.int .u32 a0_0, .int .u32 a0_1, .bool a0_2, .int .i64 a0_3, .int .i64 a0_4, .int .u32 a0_5] 39 (0, 0)) (by (with_reducible repeat (first | refine blk_drewN ?_ _ | refine blk_drew ?_ | refine blk_alloc ?_ _)); exact BK191.out) hb)
                  have n1_ := Aside0.mk (blk_below (g := gb192) (o := .cells #[.int .u32 a0_0, .int .u32 a0_1, .bool a0_2] 24 (0, 0)) (by (with_reducible repeat (first | refine blk_drewN ?_ _ | refine blk_drew ?_ | refine blk_alloc ?_ _)); exact BK192.out) hb)
                  have n2_ := Aside0.mk (blk_below (g := gb202) (o := .cells #[.int .u32 a0_5, .int .u32 a0_5, .bool false] 24 (0, 0)) (by (with_reducible repeat (first | refine blk_drewN ?_ _ | refine blk_drew ?_ | refine blk_alloc ?_ _)); exact BK202.out) hb)
                  have n3_ := Aside0.mk (below_step (by repeat (first | (with_reducible first | exact HB.out | apply below_alloc | apply pw_below_drewN | apply below_drew1 | refine below_set ?_ GE191.out | refine below_set ?_ GE192.out | refine below_set ?_ GE202.out) | exact HB.out)) hb)
                  have n4_ := Aside0.mk (hbox)
                  have n5_ := Aside0.mk ((by rw [hg]; exact (below_size (by repeat (first | (with_reducible first | exact HB.out | apply below_alloc | apply pw_below_drewN | apply below_drew1 | refine below_set ?_ GE191.out | refine below_set ?_ GE192.out | refine below_set ?_ GE202.out) | exact HB.out))) : w.heap.size ≤ gb210))
                  have n6_ := Aside0.mk ((by rw [hg]; exact (below_size (by repeat (first | (with_reducible first | exact HB.out | apply below_alloc | apply pw_below_drewN | apply below_drew1 | refine below_set ?_ GE191.out | refine below_set ?_ GE192.out | refine below_set ?_ GE202.out) | exact HB.out))) : w.heap.size ≤ gb210))
                  have n7_ := Aside0.mk ((by rw [hg]; exact Nat.ne_of_lt (blk_lt (g := gb191) (o := .cells #[.int .u32 a0_0, .int .u32 a0_1, .bool a0_2, .int .i64 a0_3, .int .i64 a0_4, .int .u32 a0_5] 39 (0, 0)) (by (with_reducible repeat (first | refine blk_drewN ?_ _ | refine blk_drew ?_ | refine blk_alloc ?_ _)); exact BK191.out)) : gb191 ≠ gb210))
                  have n8_ := Aside0.mk ((by rw [hg]; exact Nat.ne_of_gt (blk_lt (g := gb191) (o := .cells #[.int .u32 a0_0, .int .u32 a0_1, .bool a0_2, .int .i64 a0_3, .int .i64 a0_4, .int .u32 a0_5] 39 (0, 0)) (by (with_reducible repeat (first | refine blk_drewN ?_ _ | refine blk_drew ?_ | refine blk_alloc ?_ _)); exact BK191.out)) : gb210 ≠ gb191))
                  have n9_ := Aside0.mk ((by rw [hg]; exact Nat.ne_of_lt (blk_lt (g := gb192) (o := .cells #[.int .u32 a0_0, .int .u32 a0_1, .bool a0_2] 24 (0, 0)) (by (with_reducible repeat (first | refine blk_drewN ?_ _ | refine blk_drew ?_ | refine blk_alloc ?_ _)); exact BK192.out)) : gb192 ≠ gb210))
                  have n10_ := Aside0.mk ((by rw [hg]; exact Nat.ne_of_gt (blk_lt (g := gb192) (o := .cells #[.int .u32 a0_0, .int .u32 a0_1, .bool a0_2] 24 (0, 0)) (by (with_reducible repeat (first | refine blk_drewN ?_ _ | refine blk_drew ?_ | refine blk_alloc ?_ _)); exact BK192.out)) : gb210 ≠ gb192))
                  have n11_ := Aside0.mk ((by rw [hg]; exact Nat.ne_of_lt (blk_lt (g := gb202) (o := .cells #[.int .u32 a0_5, .int .u32 a0_5, .bool false] 24 (0, 0)) (by (with_reducible repeat (first | refine blk_drewN ?_ _ | refine blk_drew ?_ | refine blk_alloc ?_ _)); exact BK202.out)) : gb202 ≠ gb210))
                  have n12_ := Aside0.mk ((by rw [hg]; exact Nat.ne_of_gt (blk_lt (g := gb202) (o := .cells #[.int .u32 a0_5, .int .u32 a0_5, .bool false] 24 (0, 0)) (by (with_reducible repeat (first | refine blk_drewN ?_ _ | refine blk_drew ?_ | refine blk_alloc ?_ _)); exact BK202.out)) : gb210 ≠ gb202))
                  clear BK191
                  clear BK192
                  clear BK202
                  clear HB
                  have BK191 := n0_
                  have BK192 := n1_
                  have BK202 := n2_
                  have HB := n3_
                  have BK210 := n4_
                  have GW210 := n5_
                  have GE210 := n6_
                  have NB191_210 := n7_
                  have NB210_191 := n8_
                  have NB192_210 := n9_
                  have NB210_192 := n10_
                  have NB202_210 := n11_
                  have NB210_202 := n12_
                  clear n0_ n1_ n2_ n3_ n4_ n5_ n6_ n7_ n8_ n9_ n10_ n11_ n12_
                  clear hb hbox hg
                  refine hK.out _ _ ⟨(blk_cell BK202.out 0).trans rfl, (blk_cell BK202.out 1).trans rfl, (blk_cell BK202.out 2).trans rfl⟩ (fun hHeld => ?_)
                  clear hK K
                  refine norm_ (a' := ?_) ?_ ?_
                  rotate_left
                  · show Act.put _ (some 10) _ = _
                    simp only [Act.put, List.setIfInBounds_toArray, List.set_cons_zero, List.set_cons_succ, i64_w, i32_w]
                    rfl
                  exact norm_ (by first | (simp only [putAll, Act.put, List.setIfInBounds_toArray, List.set_cons_zero, List.set_cons_succ]; done) | (simp only [putAll, Act.put, List.setIfInBounds_toArray, List.set_cons_zero, List.set_cons_succ]; rfl)) (hJ4_8_10 (gb210) _ ⟨hHeld, (by (with_reducible repeat (first | refine blk_drewN ?_ _ | refine blk_drew ?_ | refine blk_alloc ?_ _)); exact BK191.out), (by (with_reducible repeat (first | refine blk_drewN ?_ _ | refine blk_drew ?_ | refine blk_alloc ?_ _)); exact BK192.out), (by (with_reducible repeat (first | refine blk_drewN ?_ _ | refine blk_drew ?_ | refine blk_alloc ?_ _)); exact BK202.out), (by (with_reducible repeat (first | refine blk_drewN ?_ _ | refine blk_drew ?_ | refine blk_alloc ?_ _)); exact BK210.out), GW210.out, GE210.out, NB191_210.out, NB210_191.out, NB192_210.out, NB210_192.out, NB202_210.out, NB210_202.out, (by repeat (first | (with_reducible first | exact HB.out | apply below_alloc | apply pw_below_drewN | apply below_drew1 | refine below_set ?_ GE191.out | refine below_set ?_ GE192.out | refine below_set ?_ GE202.out | refine below_set ?_ GE210.out) | exact HB.out))⟩)
            · skip
              rintro ⟨gb209, gb210⟩ w33 ⟨hS_, h0_, h1_, h2_, h3_, h4_, h5_, h6_, h7_, h8_, h9_, h10_, h11_, h12_, h13_, h14_, h15_, h16_, h17_, h18_, h19_, h20_, h21_, h22_, h23_⟩
              have n0_ : Aside0 (w33.heap[gb191]? = some (.cells #[.int .u32 a0_0, .int .u32 a0_1, .bool a0_2, .int .i64 a0_3, .int .i64 a0_4, .int .u32 a0_5] 39 (0, 0))) := ⟨h0_⟩
              have n1_ : Aside0 (w33.heap[gb192]? = some (.cells #[.int .u32 a0_0, .int .u32 a0_1, .bool a0_2] 24 (0, 0))) := ⟨h1_⟩
              have n2_ : Aside0 (w33.heap[gb202]? = some (.cells #[.int .u32 a0_5, .int .u32 a0_5, .bool false] 24 (0, 0))) := ⟨h2_⟩
              have n3_ : Aside0 (w33.heap[gb209]? = some (.cells #[.int .u32 0, .int .u32 0, .bool false] 24 (0, 0))) := ⟨h3_⟩
              have n4_ : Aside0 (w33.heap[gb210]? = some (.cells #[.int .u32 0, .int .u32 0, .bool false] 24 (0, 0))) := ⟨h4_⟩
              have n5_ : Aside0 (w.heap.size ≤ gb209) := ⟨h5_⟩
              have n6_ : Aside0 (w.heap.size ≤ gb209) := ⟨h6_⟩
              have n7_ : Aside0 (gb191 ≠ gb209) := ⟨h7_⟩
              have n8_ : Aside0 (gb209 ≠ gb191) := ⟨h8_⟩
              have n9_ : Aside0 (gb192 ≠ gb209) := ⟨h9_⟩
              have n10_ : Aside0 (gb209 ≠ gb192) := ⟨h10_⟩
              have n11_ : Aside0 (gb202 ≠ gb209) := ⟨h11_⟩
              have n12_ : Aside0 (gb209 ≠ gb202) := ⟨h12_⟩
              have n13_ : Aside0 (gb210 ≠ gb209) := ⟨h13_⟩
              have n14_ : Aside0 (gb209 ≠ gb210) := ⟨h14_⟩
              have n15_ : Aside0 (w.heap.size ≤ gb210) := ⟨h15_⟩
              have n16_ : Aside0 (w.heap.size ≤ gb210) := ⟨h16_⟩
              have n17_ : Aside0 (gb191 ≠ gb210) := ⟨h17_⟩
              have n18_ : Aside0 (gb210 ≠ gb191) := ⟨h18_⟩
              have n19_ : Aside0 (gb192 ≠ gb210) := ⟨h19_⟩
              have n20_ : Aside0 (gb210 ≠ gb192) := ⟨h20_⟩
              have n21_ : Aside0 (gb202 ≠ gb210) := ⟨h21_⟩
              have n22_ : Aside0 (gb210 ≠ gb202) := ⟨h22_⟩
              have n23_ : Aside0 (Below w.heap.size w w33) := ⟨h23_⟩
              clear BK191
              clear BK192
              clear BK202
              clear HB
              clear h0_ h1_ h2_ h3_ h4_ h5_ h6_ h7_ h8_ h9_ h10_ h11_ h12_ h13_ h14_ h15_ h16_ h17_ h18_ h19_ h20_ h21_ h22_ h23_
              have BK191 := n0_
              have BK192 := n1_
              have BK202 := n2_
              have BK209 := n3_
              have BK210 := n4_
              have GW209 := n5_
              have GE209 := n6_
              have NB191_209 := n7_
              have NB209_191 := n8_
              have NB192_209 := n9_
              have NB209_192 := n10_
              have NB202_209 := n11_
              have NB209_202 := n12_
              have NB210_209 := n13_
              have NB209_210 := n14_
              have GW210 := n15_
              have GE210 := n16_
              have NB191_210 := n17_
              have NB210_191 := n18_
              have NB192_210 := n19_
              have NB210_192 := n20_
              have NB202_210 := n21_
              have NB210_202 := n22_
              have HB := n23_
              clear n0_ n1_ n2_ n3_ n4_ n5_ n6_ n7_ n8_ n9_ n10_ n11_ n12_ n13_ n14_ n15_ n16_ n17_ n18_ n19_ n20_ n21_ n22_ n23_
              have hHeld : w33.cell? ⟨gb202, 0, none⟩ = some (.int .u32 a0_5) ∧ w33.cell? ⟨gb202, 1, none⟩ = some (.int .u32 a0_5) ∧ w33.cell? ⟨gb202, 2, none⟩ = some (.bool false) := hS_
              refine norm_ (a' := ?_) ?_ ?_
              rotate_left
              · simp only [putAll, Act.put, List.setIfInBounds_toArray, List.set_cons_zero, List.set_cons_succ]
                rfl
              refine one_ (i := 8) (N := some 48) #[true, true, true, true, true, true, true, true, true, true, true, false, false] rfl rfl (one_of HT_.out (by kernel_rfl)) (by decide) (fun K hK => ?_)
              refine goes_ Try.func16 (by kernel_rfl) rfl #[.agg #[.int .u32 a0_5, .int .u32 a0_5, .bool false], .int .i64 (wrap64 (a0_5))] (by rfl) rfl rfl (by (try simp only [List.map_toArray, List.map_cons, List.map_nil]); first | done | rfl | (simp only [List.length_drop, List.length_take]; rfl)) ?_
              with_reducible refine (timer_Ticks.calls k a0_5 a0_5 false (wrap64 (a0_5)) t206 t207 t208 _ A8.out).mono ?_
              rintro e w34 ⟨rfl, hb⟩
              refine ⟨_, rfl, ?_⟩
              have n0_ := Aside0.mk (blk_below (g := gb191) (o := .cells #[.int .u32 a0_0, .int .u32 a0_1, .bool a0_2, .int .i64 a0_3, .int .i64 a0_4, .int .u32 a0_5] 39 (0, 0)) (by (with_reducible repeat (first | refine blk_drewN ?_ _ | refine blk_drew ?_ | refine blk_alloc ?_ _)); exact BK191.out) hb)
              have n1_ := Aside0.mk (blk_below (g := gb192) (o := .cells #[.int .u32 a0_0, .int .u32 a0_1, .bool a0_2] 24 (0, 0)) (by (with_reducible repeat (first | refine blk_drewN ?_ _ | refine blk_drew ?_ | refine blk_alloc ?_ _)); exact BK192.out) hb)
              have n2_ := Aside0.mk (blk_below (g := gb202) (o := .cells #[.int .u32 a0_5, .int .u32 a0_5, .bool false] 24 (0, 0)) (by (with_reducible repeat (first | refine blk_drewN ?_ _ | refine blk_drew ?_ | refine blk_alloc ?_ _)); exact BK202.out) hb)
              have n3_ := Aside0.mk (blk_below (g := gb209) (o := .cells #[.int .u32 0, .int .u32 0, .bool false] 24 (0, 0)) (by (with_reducible repeat (first | refine blk_drewN ?_ _ | refine blk_drew ?_ | refine blk_alloc ?_ _)); exact BK209.out) hb)
              have n4_ := Aside0.mk (blk_below (g := gb210) (o := .cells #[.int .u32 0, .int .u32 0, .bool false] 24 (0, 0)) (by (with_reducible repeat (first | refine blk_drewN ?_ _ | refine blk_drew ?_ | refine blk_alloc ?_ _)); exact BK210.out) hb)
              have n5_ := Aside0.mk (below_step (by repeat (first | (with_reducible first | exact HB.out | apply below_alloc | apply pw_below_drewN | apply below_drew1 | refine below_set ?_ GE191.out | refine below_set ?_ GE192.out | refine below_set ?_ GE202.out | refine below_set ?_ GE209.out | refine below_set ?_ GE210.out) | exact HB.out)) hb)
              clear BK191
              clear BK192
              clear BK202
              clear BK209
              clear BK210
              clear HB
              have BK191 := n0_
              have BK192 := n1_
              have BK202 := n2_
              have BK209 := n3_
              have BK210 := n4_
              have HB := n5_
              clear n0_ n1_ n2_ n3_ n4_ n5_
              (try clear hb)
              (try clear hb2)
              (try clear hk)
              (try clear hi)
              refine hK.out _ _ ⟨(blk_cell BK202.out 0).trans rfl, (blk_cell BK202.out 1).trans rfl, (blk_cell BK202.out 2).trans rfl⟩ (fun hHeld => ?_)
              clear hK K
              refine norm_ (a' := ?_) ?_ ?_
              rotate_left
              · show Act.put _ (some 48) _ = _
                simp only [Act.put, List.setIfInBounds_toArray, List.set_cons_zero, List.set_cons_succ, i64_w, i32_w]
                rfl
              exact norm_ (by first | (simp only [putAll, Act.put, List.setIfInBounds_toArray, List.set_cons_zero, List.set_cons_succ]; done) | (simp only [putAll, Act.put, List.setIfInBounds_toArray, List.set_cons_zero, List.set_cons_succ]; rfl)) (hJ4_8_9_10 (gb209, gb210) _ ⟨hHeld, (by (with_reducible repeat (first | refine blk_drewN ?_ _ | refine blk_drew ?_ | refine blk_alloc ?_ _)); exact BK191.out), (by (with_reducible repeat (first | refine blk_drewN ?_ _ | refine blk_drew ?_ | refine blk_alloc ?_ _)); exact BK192.out), (by (with_reducible repeat (first | refine blk_drewN ?_ _ | refine blk_drew ?_ | refine blk_alloc ?_ _)); exact BK202.out), (by (with_reducible repeat (first | refine blk_drewN ?_ _ | refine blk_drew ?_ | refine blk_alloc ?_ _)); exact BK209.out), (by (with_reducible repeat (first | refine blk_drewN ?_ _ | refine blk_drew ?_ | refine blk_alloc ?_ _)); exact BK210.out), GW209.out, GE209.out, NB191_209.out, NB209_191.out, NB192_209.out, NB209_192.out, NB202_209.out, NB209_202.out, NB210_209.out, NB209_210.out, GW210.out, GE210.out, NB191_210.out, NB210_191.out, NB192_210.out, NB210_192.out, NB202_210.out, NB210_202.out, (by repeat (first | (with_reducible first | exact HB.out | apply below_alloc | apply pw_below_drewN | apply below_drew1 | refine below_set ?_ GE191.out | refine below_set ?_ GE192.out | refine below_set ?_ GE202.out | refine below_set ?_ GE209.out | refine below_set ?_ GE210.out) | exact HB.out))⟩)
          · skip
            rintro gb210 w33 ⟨hS_, h0_, h1_, h2_, h3_, h4_, h5_, h6_, h7_, h8_, h9_, h10_, h11_, h12_⟩
            have n0_ : Aside0 (w33.heap[gb191]? = some (.cells #[.int .u32 a0_0, .int .u32 a0_1, .bool a0_2, .int .i64 a0_3, .int .i64 a0_4, .int .u32 a0_5] 39 (0, 0))) := ⟨h0_⟩
            have n1_ : Aside0 (w33.heap[gb192]? = some (.cells #[.int .u32 a0_0, .int .u32 a0_1, .bool a0_2] 24 (0, 0))) := ⟨h1_⟩
            have n2_ : Aside0 (w33.heap[gb202]? = some (.cells #[.int .u32 a0_5, .int .u32 a0_5, .bool false] 24 (0, 0))) := ⟨h2_⟩
            have n3_ : Aside0 (w33.heap[gb210]? = some (.cells #[.int .u32 0, .int .u32 0, .bool false] 24 (0, 0))) := ⟨h3_⟩
            have n4_ : Aside0 (w.heap.size ≤ gb210) := ⟨h4_⟩
            have n5_ : Aside0 (w.heap.size ≤ gb210) := ⟨h5_⟩
            have n6_ : Aside0 (gb191 ≠ gb210) := ⟨h6_⟩
            have n7_ : Aside0 (gb210 ≠ gb191) := ⟨h7_⟩
            have n8_ : Aside0 (gb192 ≠ gb210) := ⟨h8_⟩
            have n9_ : Aside0 (gb210 ≠ gb192) := ⟨h9_⟩
            have n10_ : Aside0 (gb202 ≠ gb210) := ⟨h10_⟩
            have n11_ : Aside0 (gb210 ≠ gb202) := ⟨h11_⟩
            have n12_ : Aside0 (Below w.heap.size w w33) := ⟨h12_⟩
            clear BK191
            clear BK192
            clear BK202
            clear HB
            clear h0_ h1_ h2_ h3_ h4_ h5_ h6_ h7_ h8_ h9_ h10_ h11_ h12_
            have BK191 := n0_
            have BK192 := n1_
            have BK202 := n2_
            have BK210 := n3_
            have GW210 := n4_
            have GE210 := n5_
            have NB191_210 := n6_
            have NB210_191 := n7_
            have NB192_210 := n8_
            have NB210_192 := n9_
            have NB202_210 := n10_
            have NB210_202 := n11_
            have HB := n12_
            clear n0_ n1_ n2_ n3_ n4_ n5_ n6_ n7_ n8_ n9_ n10_ n11_ n12_
            have hHeld : w33.cell? ⟨gb202, 0, none⟩ = some (.int .u32 a0_5) ∧ w33.cell? ⟨gb202, 1, none⟩ = some (.int .u32 a0_5) ∧ w33.cell? ⟨gb202, 2, none⟩ = some (.bool false) := hS_
            refine norm_ (a' := ?_) ?_ ?_
            rotate_left
            · simp only [putAll, Act.put, List.setIfInBounds_toArray, List.set_cons_zero, List.set_cons_succ]
              rfl
            refine one_ (i := 9) (N := some 9) #[true, true, true, true, true, true, true, true, true, true, true, false, false] rfl rfl (one_of HT_.out (by kernel_rfl)) (by decide) (fun K hK => ?_)
            refine box_step ?hg (N := 9) ?hd (cs := #[.int .u32 0, .int .u32 0, .bool false]) (t := 24) ?hr ?_; (case hd => rfl); (case hg => rfl); (case hr => first | (go_simp; done) | (go_simp; rfl))
            intro gb209 hg w34 hbox hb
            have n0_ := Aside0.mk (blk_below (g := gb191) (o := .cells #[.int .u32 a0_0, .int .u32 a0_1, .bool a0_2, .int .i64 a0_3, .int .i64 a0_4, .int .u32 a0_5] 39 (0, 0)) (by (with_reducible repeat (first | refine blk_drewN ?_ _ | refine blk_drew ?_ | refine blk_alloc ?_ _)); exact BK191.out) hb)
            have n1_ := Aside0.mk (blk_below (g := gb192) (o := .cells #[.int .u32 a0_0, .int .u32 a0_1, .bool a0_2] 24 (0, 0)) (by (with_reducible repeat (first | refine blk_drewN ?_ _ | refine blk_drew ?_ | refine blk_alloc ?_ _)); exact BK192.out) hb)
            have n2_ := Aside0.mk (blk_below (g := gb202) (o := .cells #[.int .u32 a0_5, .int .u32 a0_5, .bool false] 24 (0, 0)) (by (with_reducible repeat (first | refine blk_drewN ?_ _ | refine blk_drew ?_ | refine blk_alloc ?_ _)); exact BK202.out) hb)
            have n3_ := Aside0.mk (blk_below (g := gb210) (o := .cells #[.int .u32 0, .int .u32 0, .bool false] 24 (0, 0)) (by (with_reducible repeat (first | refine blk_drewN ?_ _ | refine blk_drew ?_ | refine blk_alloc ?_ _)); exact BK210.out) hb)
            have n4_ := Aside0.mk (below_step (by repeat (first | (with_reducible first | exact HB.out | apply below_alloc | apply pw_below_drewN | apply below_drew1 | refine below_set ?_ GE191.out | refine below_set ?_ GE192.out | refine below_set ?_ GE202.out | refine below_set ?_ GE210.out) | exact HB.out)) hb)
            have n5_ := Aside0.mk (hbox)
            have n6_ := Aside0.mk ((by rw [hg]; exact (below_size (by repeat (first | (with_reducible first | exact HB.out | apply below_alloc | apply pw_below_drewN | apply below_drew1 | refine below_set ?_ GE191.out | refine below_set ?_ GE192.out | refine below_set ?_ GE202.out | refine below_set ?_ GE210.out) | exact HB.out))) : w.heap.size ≤ gb209))
            have n7_ := Aside0.mk ((by rw [hg]; exact (below_size (by repeat (first | (with_reducible first | exact HB.out | apply below_alloc | apply pw_below_drewN | apply below_drew1 | refine below_set ?_ GE191.out | refine below_set ?_ GE192.out | refine below_set ?_ GE202.out | refine below_set ?_ GE210.out) | exact HB.out))) : w.heap.size ≤ gb209))
            have n8_ := Aside0.mk ((by rw [hg]; exact Nat.ne_of_lt (blk_lt (g := gb191) (o := .cells #[.int .u32 a0_0, .int .u32 a0_1, .bool a0_2, .int .i64 a0_3, .int .i64 a0_4, .int .u32 a0_5] 39 (0, 0)) (by (with_reducible repeat (first | refine blk_drewN ?_ _ | refine blk_drew ?_ | refine blk_alloc ?_ _)); exact BK191.out)) : gb191 ≠ gb209))
            have n9_ := Aside0.mk ((by rw [hg]; exact Nat.ne_of_gt (blk_lt (g := gb191) (o := .cells #[.int .u32 a0_0, .int .u32 a0_1, .bool a0_2, .int .i64 a0_3, .int .i64 a0_4, .int .u32 a0_5] 39 (0, 0)) (by (with_reducible repeat (first | refine blk_drewN ?_ _ | refine blk_drew ?_ | refine blk_alloc ?_ _)); exact BK191.out)) : gb209 ≠ gb191))
            have n10_ := Aside0.mk ((by rw [hg]; exact Nat.ne_of_lt (blk_lt (g := gb192) (o := .cells #[.int .u32 a0_0, .int .u32 a0_1, .bool a0_2] 24 (0, 0)) (by (with_reducible repeat (first | refine blk_drewN ?_ _ | refine blk_drew ?_ | refine blk_alloc ?_ _)); exact BK192.out)) : gb192 ≠ gb209))
            have n11_ := Aside0.mk ((by rw [hg]; exact Nat.ne_of_gt (blk_lt (g := gb192) (o := .cells #[.int .u32 a0_0, .int .u32 a0_1, .bool a0_2] 24 (0, 0)) (by (with_reducible repeat (first | refine blk_drewN ?_ _ | refine blk_drew ?_ | refine blk_alloc ?_ _)); exact BK192.out)) : gb209 ≠ gb192))
            have n12_ := Aside0.mk ((by rw [hg]; exact Nat.ne_of_lt (blk_lt (g := gb202) (o := .cells #[.int .u32 a0_5, .int .u32 a0_5, .bool false] 24 (0, 0)) (by (with_reducible repeat (first | refine blk_drewN ?_ _ | refine blk_drew ?_ | refine blk_alloc ?_ _)); exact BK202.out)) : gb202 ≠ gb209))
            have n13_ := Aside0.mk ((by rw [hg]; exact Nat.ne_of_gt (blk_lt (g := gb202) (o := .cells #[.int .u32 a0_5, .int .u32 a0_5, .bool false] 24 (0, 0)) (by (with_reducible repeat (first | refine blk_drewN ?_ _ | refine blk_drew ?_ | refine blk_alloc ?_ _)); exact BK202.out)) : gb209 ≠ gb202))
            have n14_ := Aside0.mk ((by rw [hg]; exact Nat.ne_of_lt (blk_lt (g := gb210) (o := .cells #[.int .u32 0, .int .u32 0, .bool false] 24 (0, 0)) (by (with_reducible repeat (first | refine blk_drewN ?_ _ | refine blk_drew ?_ | refine blk_alloc ?_ _)); exact BK210.out)) : gb210 ≠ gb209))
            have n15_ := Aside0.mk ((by rw [hg]; exact Nat.ne_of_gt (blk_lt (g := gb210) (o := .cells #[.int .u32 0, .int .u32 0, .bool false] 24 (0, 0)) (by (with_reducible repeat (first | refine blk_drewN ?_ _ | refine blk_drew ?_ | refine blk_alloc ?_ _)); exact BK210.out)) : gb209 ≠ gb210))
            clear BK191
            clear BK192
            clear BK202
            clear BK210
            clear HB
            have BK191 := n0_
            have BK192 := n1_
            have BK202 := n2_
            have BK210 := n3_
            have HB := n4_
            have BK209 := n5_
            have GW209 := n6_
            have GE209 := n7_
            have NB191_209 := n8_
            have NB209_191 := n9_
            have NB192_209 := n10_
            have NB209_192 := n11_
            have NB202_209 := n12_
            have NB209_202 := n13_
            have NB210_209 := n14_
            have NB209_210 := n15_
            clear n0_ n1_ n2_ n3_ n4_ n5_ n6_ n7_ n8_ n9_ n10_ n11_ n12_ n13_ n14_ n15_
            clear hb hbox hg
            refine hK.out _ _ ⟨(blk_cell BK202.out 0).trans rfl, (blk_cell BK202.out 1).trans rfl, (blk_cell BK202.out 2).trans rfl⟩ (fun hHeld => ?_)
            clear hK K
            refine norm_ (a' := ?_) ?_ ?_
            rotate_left
            · show Act.put _ (some 9) _ = _
              simp only [Act.put, List.setIfInBounds_toArray, List.set_cons_zero, List.set_cons_succ, i64_w, i32_w]
              rfl
            exact norm_ (by first | (simp only [putAll, Act.put, List.setIfInBounds_toArray, List.set_cons_zero, List.set_cons_succ]; done) | (simp only [putAll, Act.put, List.setIfInBounds_toArray, List.set_cons_zero, List.set_cons_succ]; rfl)) (hJ4_8_9_10 (gb209, gb210) _ ⟨hHeld, (by (with_reducible repeat (first | refine blk_drewN ?_ _ | refine blk_drew ?_ | refine blk_alloc ?_ _)); exact BK191.out), (by (with_reducible repeat (first | refine blk_drewN ?_ _ | refine blk_drew ?_ | refine blk_alloc ?_ _)); exact BK192.out), (by (with_reducible repeat (first | refine blk_drewN ?_ _ | refine blk_drew ?_ | refine blk_alloc ?_ _)); exact BK202.out), (by (with_reducible repeat (first | refine blk_drewN ?_ _ | refine blk_drew ?_ | refine blk_alloc ?_ _)); exact BK209.out), (by (with_reducible repeat (first | refine blk_drewN ?_ _ | refine blk_drew ?_ | refine blk_alloc ?_ _)); exact BK210.out), GW209.out, GE209.out, NB191_209.out, NB209_191.out, NB192_209.out, NB209_192.out, NB202_209.out, NB209_202.out, NB210_209.out, NB209_210.out, GW210.out, GE210.out, NB191_210.out, NB210_191.out, NB192_210.out, NB210_192.out, NB202_210.out, NB210_202.out, (by repeat (first | (with_reducible first | exact HB.out | apply below_alloc | apply pw_below_drewN | apply below_drew1 | refine below_set ?_ GE191.out | refine below_set ?_ GE192.out | refine below_set ?_ GE202.out | refine below_set ?_ GE210.out | refine below_set ?_ GE209.out) | exact HB.out))⟩)
        · skip
          rintro gb209 w33 ⟨hS_, h0_, h1_, h2_, h3_, h4_, h5_, h6_, h7_, h8_, h9_, h10_, h11_, h12_⟩
          have n0_ : Aside0 (w33.heap[gb191]? = some (.cells #[.int .u32 a0_0, .int .u32 a0_1, .bool a0_2, .int .i64 a0_3, .int .i64 a0_4, .int .u32 a0_5] 39 (0, 0))) := ⟨h0_⟩
          have n1_ : Aside0 (w33.heap[gb192]? = some (.cells #[.int .u32 a0_0, .int .u32 a0_1, .bool a0_2] 24 (0, 0))) := ⟨h1_⟩
          have n2_ : Aside0 (w33.heap[gb202]? = some (.cells #[.int .u32 a0_5, .int .u32 a0_5, .bool false] 24 (0, 0))) := ⟨h2_⟩
          have n3_ : Aside0 (w33.heap[gb209]? = some (.cells #[.int .u32 0, .int .u32 0, .bool false] 24 (0, 0))) := ⟨h3_⟩
          have n4_ : Aside0 (w.heap.size ≤ gb209) := ⟨h4_⟩
          have n5_ : Aside0 (w.heap.size ≤ gb209) := ⟨h5_⟩
          have n6_ : Aside0 (gb191 ≠ gb209) := ⟨h6_⟩
          have n7_ : Aside0 (gb209 ≠ gb191) := ⟨h7_⟩
          have n8_ : Aside0 (gb192 ≠ gb209) := ⟨h8_⟩
          have n9_ : Aside0 (gb209 ≠ gb192) := ⟨h9_⟩
          have n10_ : Aside0 (gb202 ≠ gb209) := ⟨h10_⟩
          have n11_ : Aside0 (gb209 ≠ gb202) := ⟨h11_⟩
          have n12_ : Aside0 (Below w.heap.size w w33) := ⟨h12_⟩
          clear BK191
          clear BK192
          clear BK202
          clear HB
          clear h0_ h1_ h2_ h3_ h4_ h5_ h6_ h7_ h8_ h9_ h10_ h11_ h12_
          have BK191 := n0_
          have BK192 := n1_
          have BK202 := n2_
          have BK209 := n3_
          have GW209 := n4_
          have GE209 := n5_
          have NB191_209 := n6_
          have NB209_191 := n7_
          have NB192_209 := n8_
          have NB209_192 := n9_
          have NB202_209 := n10_
          have NB209_202 := n11_
          have HB := n12_
          clear n0_ n1_ n2_ n3_ n4_ n5_ n6_ n7_ n8_ n9_ n10_ n11_ n12_
          have hHeld : w33.cell? ⟨gb202, 0, none⟩ = some (.int .u32 a0_5) ∧ w33.cell? ⟨gb202, 1, none⟩ = some (.int .u32 a0_5) ∧ w33.cell? ⟨gb202, 2, none⟩ = some (.bool false) := hS_
          refine norm_ (a' := ?_) ?_ ?_
          rotate_left
          · simp only [putAll, Act.put, List.setIfInBounds_toArray, List.set_cons_zero, List.set_cons_succ]
            rfl
          refine one_ (i := 10) (N := some 10) #[true, true, true, true, true, true, true, true, true, true, true, false, false] rfl rfl (one_of HT_.out (by kernel_rfl)) (by decide) (fun K hK => ?_)
          refine box_step ?hg (N := 10) ?hd (cs := #[.int .u32 0, .int .u32 0, .bool false]) (t := 24) ?hr ?_; (case hd => rfl); (case hg => rfl); (case hr => first | (go_simp; done) | (go_simp; rfl))
          intro gb210 hg w34 hbox hb
          have n0_ := Aside0.mk (blk_below (g := gb191) (o := .cells #[.int .u32 a0_0, .int .u32 a0_1, .bool a0_2, .int .i64 a0_3, .int .i64 a0_4, .int .u32 a0_5] 39 (0, 0)) (by (with_reducible repeat (first | refine blk_drewN ?_ _ | refine blk_drew ?_ | refine blk_alloc ?_ _)); exact BK191.out) hb)
          have n1_ := Aside0.mk (blk_below (g := gb192) (o := .cells #[.int .u32 a0_0, .int .u32 a0_1, .bool a0_2] 24 (0, 0)) (by (with_reducible repeat (first | refine blk_drewN ?_ _ | refine blk_drew ?_ | refine blk_alloc ?_ _)); exact BK192.out) hb)
          have n2_ := Aside0.mk (blk_below (g := gb202) (o := .cells #[.int .u32 a0_5, .int .u32 a0_5, .bool false] 24 (0, 0)) (by (with_reducible repeat (first | refine blk_drewN ?_ _ | refine blk_drew ?_ | refine blk_alloc ?_ _)); exact BK202.out) hb)
          have n3_ := Aside0.mk (blk_below (g := gb209) (o := .cells #[.int .u32 0, .int .u32 0, .bool false] 24 (0, 0)) (by (with_reducible repeat (first | refine blk_drewN ?_ _ | refine blk_drew ?_ | refine blk_alloc ?_ _)); exact BK209.out) hb)
          have n4_ := Aside0.mk (below_step (by repeat (first | (with_reducible first | exact HB.out | apply below_alloc | apply pw_below_drewN | apply below_drew1 | refine below_set ?_ GE191.out | refine below_set ?_ GE192.out | refine below_set ?_ GE202.out | refine below_set ?_ GE209.out) | exact HB.out)) hb)
          have n5_ := Aside0.mk (hbox)
          have n6_ := Aside0.mk ((by rw [hg]; exact (below_size (by repeat (first | (with_reducible first | exact HB.out | apply below_alloc | apply pw_below_drewN | apply below_drew1 | refine below_set ?_ GE191.out | refine below_set ?_ GE192.out | refine below_set ?_ GE202.out | refine below_set ?_ GE209.out) | exact HB.out))) : w.heap.size ≤ gb210))
          have n7_ := Aside0.mk ((by rw [hg]; exact (below_size (by repeat (first | (with_reducible first | exact HB.out | apply below_alloc | apply pw_below_drewN | apply below_drew1 | refine below_set ?_ GE191.out | refine below_set ?_ GE192.out | refine below_set ?_ GE202.out | refine below_set ?_ GE209.out) | exact HB.out))) : w.heap.size ≤ gb210))
          have n8_ := Aside0.mk ((by rw [hg]; exact Nat.ne_of_lt (blk_lt (g := gb191) (o := .cells #[.int .u32 a0_0, .int .u32 a0_1, .bool a0_2, .int .i64 a0_3, .int .i64 a0_4, .int .u32 a0_5] 39 (0, 0)) (by (with_reducible repeat (first | refine blk_drewN ?_ _ | refine blk_drew ?_ | refine blk_alloc ?_ _)); exact BK191.out)) : gb191 ≠ gb210))
          have n9_ := Aside0.mk ((by rw [hg]; exact Nat.ne_of_gt (blk_lt (g := gb191) (o := .cells #[.int .u32 a0_0, .int .u32 a0_1, .bool a0_2, .int .i64 a0_3, .int .i64 a0_4, .int .u32 a0_5] 39 (0, 0)) (by (with_reducible repeat (first | refine blk_drewN ?_ _ | refine blk_drew ?_ | refine blk_alloc ?_ _)); exact BK191.out)) : gb210 ≠ gb191))
          have n10_ := Aside0.mk ((by rw [hg]; exact Nat.ne_of_lt (blk_lt (g := gb192) (o := .cells #[.int .u32 a0_0, .int .u32 a0_1, .bool a0_2] 24 (0, 0)) (by (with_reducible repeat (first | refine blk_drewN ?_ _ | refine blk_drew ?_ | refine blk_alloc ?_ _)); exact BK192.out)) : gb192 ≠ gb210))
          have n11_ := Aside0.mk ((by rw [hg]; exact Nat.ne_of_gt (blk_lt (g := gb192) (o := .cells #[.int .u32 a0_0, .int .u32 a0_1, .bool a0_2] 24 (0, 0)) (by (with_reducible repeat (first | refine blk_drewN ?_ _ | refine blk_drew ?_ | refine blk_alloc ?_ _)); exact BK192.out)) : gb210 ≠ gb192))
          have n12_ := Aside0.mk ((by rw [hg]; exact Nat.ne_of_lt (blk_lt (g := gb202) (o := .cells #[.int .u32 a0_5, .int .u32 a0_5, .bool false] 24 (0, 0)) (by (with_reducible repeat (first | refine blk_drewN ?_ _ | refine blk_drew ?_ | refine blk_alloc ?_ _)); exact BK202.out)) : gb202 ≠ gb210))
          have n13_ := Aside0.mk ((by rw [hg]; exact Nat.ne_of_gt (blk_lt (g := gb202) (o := .cells #[.int .u32 a0_5, .int .u32 a0_5, .bool false] 24 (0, 0)) (by (with_reducible repeat (first | refine blk_drewN ?_ _ | refine blk_drew ?_ | refine blk_alloc ?_ _)); exact BK202.out)) : gb210 ≠ gb202))
          have n14_ := Aside0.mk ((by rw [hg]; exact Nat.ne_of_lt (blk_lt (g := gb209) (o := .cells #[.int .u32 0, .int .u32 0, .bool false] 24 (0, 0)) (by (with_reducible repeat (first | refine blk_drewN ?_ _ | refine blk_drew ?_ | refine blk_alloc ?_ _)); exact BK209.out)) : gb209 ≠ gb210))
          have n15_ := Aside0.mk ((by rw [hg]; exact Nat.ne_of_gt (blk_lt (g := gb209) (o := .cells #[.int .u32 0, .int .u32 0, .bool false] 24 (0, 0)) (by (with_reducible repeat (first | refine blk_drewN ?_ _ | refine blk_drew ?_ | refine blk_alloc ?_ _)); exact BK209.out)) : gb210 ≠ gb209))
          clear BK191
          clear BK192
          clear BK202
          clear BK209
          clear HB
          have BK191 := n0_
          have BK192 := n1_
          have BK202 := n2_
          have BK209 := n3_
          have HB := n4_
          have BK210 := n5_
          have GW210 := n6_
          have GE210 := n7_
          have NB191_210 := n8_
          have NB210_191 := n9_
          have NB192_210 := n10_
          have NB210_192 := n11_
          have NB202_210 := n12_
          have NB210_202 := n13_
          have NB209_210 := n14_
          have NB210_209 := n15_
          clear n0_ n1_ n2_ n3_ n4_ n5_ n6_ n7_ n8_ n9_ n10_ n11_ n12_ n13_ n14_ n15_
          clear hb hbox hg
          refine hK.out _ _ ⟨(blk_cell BK202.out 0).trans rfl, (blk_cell BK202.out 1).trans rfl, (blk_cell BK202.out 2).trans rfl⟩ (fun hHeld => ?_)
          clear hK K
          refine norm_ (a' := ?_) ?_ ?_
          rotate_left
          · show Act.put _ (some 10) _ = _
            simp only [Act.put, List.setIfInBounds_toArray, List.set_cons_zero, List.set_cons_succ, i64_w, i32_w]
            rfl
          exact norm_ (by first | (simp only [putAll, Act.put, List.setIfInBounds_toArray, List.set_cons_zero, List.set_cons_succ]; done) | (simp only [putAll, Act.put, List.setIfInBounds_toArray, List.set_cons_zero, List.set_cons_succ]; rfl)) (hJ4_8_9_10 (gb209, gb210) _ ⟨hHeld, (by (with_reducible repeat (first | refine blk_drewN ?_ _ | refine blk_drew ?_ | refine blk_alloc ?_ _)); exact BK191.out), (by (with_reducible repeat (first | refine blk_drewN ?_ _ | refine blk_drew ?_ | refine blk_alloc ?_ _)); exact BK192.out), (by (with_reducible repeat (first | refine blk_drewN ?_ _ | refine blk_drew ?_ | refine blk_alloc ?_ _)); exact BK202.out), (by (with_reducible repeat (first | refine blk_drewN ?_ _ | refine blk_drew ?_ | refine blk_alloc ?_ _)); exact BK209.out), (by (with_reducible repeat (first | refine blk_drewN ?_ _ | refine blk_drew ?_ | refine blk_alloc ?_ _)); exact BK210.out), GW209.out, GE209.out, NB191_209.out, NB209_191.out, NB192_209.out, NB209_192.out, NB202_209.out, NB209_202.out, NB210_209.out, NB209_210.out, GW210.out, GE210.out, NB191_210.out, NB210_191.out, NB192_210.out, NB210_192.out, NB202_210.out, NB210_202.out, (by repeat (first | (with_reducible first | exact HB.out | apply below_alloc | apply pw_below_drewN | apply below_drew1 | refine below_set ?_ GE191.out | refine below_set ?_ GE192.out | refine below_set ?_ GE202.out | refine below_set ?_ GE209.out | refine below_set ?_ GE210.out) | exact HB.out))⟩)
      rintro ⟨gb209, gb210⟩ w34 ⟨hS_, h0_, h1_, h2_, h3_, h4_, h5_, h6_, h7_, h8_, h9_, h10_, h11_, h12_, h13_, h14_, h15_, h16_, h17_, h18_, h19_, h20_, h21_, h22_, h23_⟩
      have n0_ : Aside0 (w34.heap[gb191]? = some (.cells #[.int .u32 a0_0, .int .u32 a0_1, .bool a0_2, .int .i64 a0_3, .int .i64 a0_4, .int .u32 a0_5] 39 (0, 0))) := ⟨h0_⟩
      have n1_ : Aside0 (w34.heap[gb192]? = some (.cells #[.int .u32 a0_0, .int .u32 a0_1, .bool a0_2] 24 (0, 0))) := ⟨h1_⟩
      have n2_ : Aside0 (w34.heap[gb202]? = some (.cells #[.int .u32 a0_5, .int .u32 a0_5, .bool false] 24 (0, 0))) := ⟨h2_⟩
      have n3_ : Aside0 (w34.heap[gb209]? = some (.cells #[.int .u32 0, .int .u32 0, .bool false] 24 (0, 0))) := ⟨h3_⟩
      have n4_ : Aside0 (w34.heap[gb210]? = some (.cells #[.int .u32 0, .int .u32 0, .bool false] 24 (0, 0))) := ⟨h4_⟩
      have n5_ : Aside0 (w.heap.size ≤ gb209) := ⟨h5_⟩
      have n6_ : Aside0 (w.heap.size ≤ gb209) := ⟨h6_⟩
      have n7_ : Aside0 (gb191 ≠ gb209) := ⟨h7_⟩
      have n8_ : Aside0 (gb209 ≠ gb191) := ⟨h8_⟩
      have n9_ : Aside0 (gb192 ≠ gb209) := ⟨h9_⟩
      have n10_ : Aside0 (gb209 ≠ gb192) := ⟨h10_⟩
      have n11_ : Aside0 (gb202 ≠ gb209) := ⟨h11_⟩
      have n12_ : Aside0 (gb209 ≠ gb202) := ⟨h12_⟩
      have n13_ : Aside0 (gb210 ≠ gb209) := ⟨h13_⟩
      have n14_ : Aside0 (gb209 ≠ gb210) := ⟨h14_⟩
      have n15_ : Aside0 (w.heap.size ≤ gb210) := ⟨h15_⟩
      have n16_ : Aside0 (w.heap.size ≤ gb210) := ⟨h16_⟩
      have n17_ : Aside0 (gb191 ≠ gb210) := ⟨h17_⟩
      have n18_ : Aside0 (gb210 ≠ gb191) := ⟨h18_⟩
      have n19_ : Aside0 (gb192 ≠ gb210) := ⟨h19_⟩
      have n20_ : Aside0 (gb210 ≠ gb192) := ⟨h20_⟩
      have n21_ : Aside0 (gb202 ≠ gb210) := ⟨h21_⟩
      have n22_ : Aside0 (gb210 ≠ gb202) := ⟨h22_⟩
      have n23_ : Aside0 (Below w.heap.size w w34) := ⟨h23_⟩
      clear BK191
      clear BK192
      clear BK202
      clear HB
      clear h0_ h1_ h2_ h3_ h4_ h5_ h6_ h7_ h8_ h9_ h10_ h11_ h12_ h13_ h14_ h15_ h16_ h17_ h18_ h19_ h20_ h21_ h22_ h23_
      have BK191 := n0_
      have BK192 := n1_
      have BK202 := n2_
      have BK209 := n3_
      have BK210 := n4_
      have GW209 := n5_
      have GE209 := n6_
      have NB191_209 := n7_
      have NB209_191 := n8_
      have NB192_209 := n9_
      have NB209_192 := n10_
      have NB202_209 := n11_
      have NB209_202 := n12_
      have NB210_209 := n13_
      have NB209_210 := n14_
      have GW210 := n15_
      have GE210 := n16_
      have NB191_210 := n17_
      have NB210_191 := n18_
      have NB192_210 := n19_
      have NB210_192 := n20_
      have NB202_210 := n21_
      have NB210_202 := n22_
      have HB := n23_
      clear n0_ n1_ n2_ n3_ n4_ n5_ n6_ n7_ n8_ n9_ n10_ n11_ n12_ n13_ n14_ n15_ n16_ n17_ n18_ n19_ n20_ n21_ n22_ n23_
      have hHeld : w34.cell? ⟨gb202, 0, none⟩ = some (.int .u32 a0_5) ∧ w34.cell? ⟨gb202, 1, none⟩ = some (.int .u32 a0_5) ∧ w34.cell? ⟨gb202, 2, none⟩ = some (.bool false) := hS_
      refine norm_ (a' := ?_) ?_ ?_
      rotate_left
      · simp only [putAll, Act.put, List.setIfInBounds_toArray, List.set_cons_zero, List.set_cons_succ]
        rfl
      refine one_ (i := 11) (N := none) #[true, true, true, true, true, true, true, true, true, true, true, true, false] rfl rfl (one_of HT_.out (by kernel_rfl)) (by decide) (fun K hK => ?_)
      have hs35 : w34.cell? ⟨gb209, 0, none⟩ = some (.int .u32 0) := (blk_cell BK209.out 0).trans rfl
      have hfs35 := blk_frozen BK209.out 0
      have hns35_0 := NB191_209.out
      have hns35_1 := NB192_209.out
      have hns35_2 := NB202_209.out
      have hns35_4 := NB210_209.out
      have hms35_0 := NB209_191.out
      have hms35_1 := NB209_192.out
      have hms35_2 := NB209_202.out
      have hms35_4 := NB209_210.out
      have hs36 : w34.cell? ⟨gb209, 1, none⟩ = some (.int .u32 0) := (blk_cell BK209.out 1).trans rfl
      have hfs36 := blk_frozen BK209.out 1
      have hns36_0 := NB191_209.out
      have hns36_1 := NB192_209.out
      have hns36_2 := NB202_209.out
      have hns36_4 := NB210_209.out
      have hms36_0 := NB209_191.out
      have hms36_1 := NB209_192.out
      have hms36_2 := NB209_202.out
      have hms36_4 := NB209_210.out
      have hs37 : w34.cell? ⟨gb209, 2, none⟩ = some (.bool false) := (blk_cell BK209.out 2).trans rfl
      have hfs37 := blk_frozen BK209.out 2
      have hns37_0 := NB191_209.out
      have hns37_1 := NB192_209.out
      have hns37_2 := NB202_209.out
      have hns37_4 := NB210_209.out
      have hms37_0 := NB209_191.out
      have hms37_1 := NB209_192.out
      have hms37_2 := NB209_202.out
      have hms37_4 := NB209_210.out
      refine skip_ (w1 := ?_) (by rfl) rfl ?_ ?_
      rotate_left
      · go_simp
        rfl
      refine hK.out _ _ ⟨((cell_far (p := ⟨gb209, _, none⟩) NB202_209.out _).trans (((cell_far (p := ⟨gb209, _, none⟩) NB202_209.out _).trans (((cell_far (p := ⟨gb209, _, none⟩) NB202_209.out _).trans (hHeld.1)))))), ((cell_far (p := ⟨gb209, _, none⟩) NB202_209.out _).trans (((cell_far (p := ⟨gb209, _, none⟩) NB202_209.out _).trans (((cell_far (p := ⟨gb209, _, none⟩) NB202_209.out _).trans (hHeld.2.1)))))), ((cell_far (p := ⟨gb209, _, none⟩) NB202_209.out _).trans (((cell_far (p := ⟨gb209, _, none⟩) NB202_209.out _).trans (((cell_far (p := ⟨gb209, _, none⟩) NB202_209.out _).trans (hHeld.2.2))))))⟩ (fun hHeld => ?_)
      clear hK K
      refine one_ (i := 12) (N := none) #[true, true, true, true, true, true, true, true, true, true, true, true, true] rfl rfl (one_of HT_.out (by kernel_rfl)) (by decide) (fun K hK => ?_)
      have hs38 : w34.cell? ⟨gb210, 0, none⟩ = some (.int .u32 0) := (blk_cell BK210.out 0).trans rfl
      have hfs38 := blk_frozen BK210.out 0
      have hns38_0 := NB191_210.out
      have hns38_1 := NB192_210.out
      have hns38_2 := NB202_210.out
      have hns38_3 := NB209_210.out
      have hms38_0 := NB210_191.out
      have hms38_1 := NB210_192.out
      have hms38_2 := NB210_202.out
      have hms38_3 := NB210_209.out
      have hs39 : w34.cell? ⟨gb210, 1, none⟩ = some (.int .u32 0) := (blk_cell BK210.out 1).trans rfl
      have hfs39 := blk_frozen BK210.out 1
      have hns39_0 := NB191_210.out
      have hns39_1 := NB192_210.out
      have hns39_2 := NB202_210.out
      have hns39_3 := NB209_210.out
      have hms39_0 := NB210_191.out
      have hms39_1 := NB210_192.out
      have hms39_2 := NB210_202.out
      have hms39_3 := NB210_209.out
      have hs40 : w34.cell? ⟨gb210, 2, none⟩ = some (.bool false) := (blk_cell BK210.out 2).trans rfl
      have hfs40 := blk_frozen BK210.out 2
      have hns40_0 := NB191_210.out
      have hns40_1 := NB192_210.out
      have hns40_2 := NB202_210.out
      have hns40_3 := NB209_210.out
      have hms40_0 := NB210_191.out
      have hms40_1 := NB210_192.out
      have hms40_2 := NB210_202.out
      have hms40_3 := NB210_209.out
      refine skip_ (w1 := ?_) (by rfl) rfl ?_ ?_
      rotate_left
      · go_simp
        rfl
      refine hK.out _ _ ⟨((cell_far (p := ⟨gb210, _, none⟩) NB202_210.out _).trans (((cell_far (p := ⟨gb210, _, none⟩) NB202_210.out _).trans (((cell_far (p := ⟨gb210, _, none⟩) NB202_210.out _).trans (hHeld.1)))))), ((cell_far (p := ⟨gb210, _, none⟩) NB202_210.out _).trans (((cell_far (p := ⟨gb210, _, none⟩) NB202_210.out _).trans (((cell_far (p := ⟨gb210, _, none⟩) NB202_210.out _).trans (hHeld.2.1)))))), ((cell_far (p := ⟨gb210, _, none⟩) NB202_210.out _).trans (((cell_far (p := ⟨gb210, _, none⟩) NB202_210.out _).trans (((cell_far (p := ⟨gb210, _, none⟩) NB202_210.out _).trans (hHeld.2.2))))))⟩ (fun hHeld => ?_)
      clear hK K
      refine done_ (done_of HT_.out (by kernel_rfl)) ?_
      try go_wp2_with (first | ((with_reducible refine gate_callee (f := 13) rfl ?_); refine goesL_ (some 49) rfl rfl Try.func13 (by kernel_rfl) rfl #[] rfl (by (try simp only [List.map_toArray, List.map_cons, List.map_nil]); first | done | rfl | (simp only [List.length_drop, List.length_take]; rfl)) ?_; (with_reducible refine (zoetropelaw09_fixed.calls k  true _ A9.out).mono ?_); rintro e w41 ⟨rfl, hb⟩; refine ⟨_, rfl, ?_⟩; have n0_ := Aside0.mk (blk_below (g := gb191) (o := .cells #[.int .u32 a0_0, .int .u32 a0_1, .bool a0_2, .int .i64 a0_3, .int .i64 a0_4, .int .u32 a0_5] 39 (0, 0)) (by (with_reducible repeat (first | refine blk_drewN ?_ _ | refine blk_drew ?_ | refine blk_alloc ?_ _)); refine blk_far ?_ NB191_210.out _; (with_reducible repeat (first | refine blk_drewN ?_ _ | refine blk_drew ?_ | refine blk_alloc ?_ _)); refine blk_far ?_ NB191_210.out _; (with_reducible repeat (first | refine blk_drewN ?_ _ | refine blk_drew ?_ | refine blk_alloc ?_ _)); refine blk_far ?_ NB191_210.out _; (with_reducible repeat (first | refine blk_drewN ?_ _ | refine blk_drew ?_ | refine blk_alloc ?_ _)); refine blk_far ?_ NB191_209.out _; (with_reducible repeat (first | refine blk_drewN ?_ _ | refine blk_drew ?_ | refine blk_alloc ?_ _)); refine blk_far ?_ NB191_209.out _; (with_reducible repeat (first | refine blk_drewN ?_ _ | refine blk_drew ?_ | refine blk_alloc ?_ _)); refine blk_far ?_ NB191_209.out _; (with_reducible repeat (first | refine blk_drewN ?_ _ | refine blk_drew ?_ | refine blk_alloc ?_ _)); exact BK191.out) hb); have n1_ := Aside0.mk (blk_below (g := gb192) (o := .cells #[.int .u32 a0_0, .int .u32 a0_1, .bool a0_2] 24 (0, 0)) (by (with_reducible repeat (first | refine blk_drewN ?_ _ | refine blk_drew ?_ | refine blk_alloc ?_ _)); refine blk_far ?_ NB192_210.out _; (with_reducible repeat (first | refine blk_drewN ?_ _ | refine blk_drew ?_ | refine blk_alloc ?_ _)); refine blk_far ?_ NB192_210.out _; (with_reducible repeat (first | refine blk_drewN ?_ _ | refine blk_drew ?_ | refine blk_alloc ?_ _)); refine blk_far ?_ NB192_210.out _; (with_reducible repeat (first | refine blk_drewN ?_ _ | refine blk_drew ?_ | refine blk_alloc ?_ _)); refine blk_far ?_ NB192_209.out _; (with_reducible repeat (first | refine blk_drewN ?_ _ | refine blk_drew ?_ | refine blk_alloc ?_ _)); refine blk_far ?_ NB192_209.out _; (with_reducible repeat (first | refine blk_drewN ?_ _ | refine blk_drew ?_ | refine blk_alloc ?_ _)); refine blk_far ?_ NB192_209.out _; (with_reducible repeat (first | refine blk_drewN ?_ _ | refine blk_drew ?_ | refine blk_alloc ?_ _)); exact BK192.out) hb); have n2_ := Aside0.mk (blk_below (g := gb202) (o := .cells #[.int .u32 a0_5, .int .u32 a0_5, .bool false] 24 (0, 0)) (by (with_reducible repeat (first | refine blk_drewN ?_ _ | refine blk_drew ?_ | refine blk_alloc ?_ _)); refine blk_far ?_ NB202_210.out _; (with_reducible repeat (first | refine blk_drewN ?_ _ | refine blk_drew ?_ | refine blk_alloc ?_ _)); refine blk_far ?_ NB202_210.out _; (with_reducible repeat (first | refine blk_drewN ?_ _ | refine blk_drew ?_ | refine blk_alloc ?_ _)); refine blk_far ?_ NB202_210.out _; (with_reducible repeat (first | refine blk_drewN ?_ _ | refine blk_drew ?_ | refine blk_alloc ?_ _)); refine blk_far ?_ NB202_209.out _; (with_reducible repeat (first | refine blk_drewN ?_ _ | refine blk_drew ?_ | refine blk_alloc ?_ _)); refine blk_far ?_ NB202_209.out _; (with_reducible repeat (first | refine blk_drewN ?_ _ | refine blk_drew ?_ | refine blk_alloc ?_ _)); refine blk_far ?_ NB202_209.out _; (with_reducible repeat (first | refine blk_drewN ?_ _ | refine blk_drew ?_ | refine blk_alloc ?_ _)); exact BK202.out) hb); have n3_ := Aside0.mk (blk_below (g := gb209) (o := .cells #[.int .u32 t203, .int .u32 t204, .bool false] 24 (0, 0)) (by (with_reducible repeat (first | refine blk_drewN ?_ _ | refine blk_drew ?_ | refine blk_alloc ?_ _)); refine blk_far ?_ NB209_210.out _; (with_reducible repeat (first | refine blk_drewN ?_ _ | refine blk_drew ?_ | refine blk_alloc ?_ _)); refine blk_far ?_ NB209_210.out _; (with_reducible repeat (first | refine blk_drewN ?_ _ | refine blk_drew ?_ | refine blk_alloc ?_ _)); refine blk_far ?_ NB209_210.out _; (with_reducible repeat (first | refine blk_drewN ?_ _ | refine blk_drew ?_ | refine blk_alloc ?_ _)); refine blk_put (cs := #[.int .u32 t203, .int .u32 t204, .bool false]) ?_ 2 _ (by first | rfl | simp [ByteArray.size_append]); (with_reducible repeat (first | refine blk_drewN ?_ _ | refine blk_drew ?_ | refine blk_alloc ?_ _)); refine blk_put (cs := #[.int .u32 t203, .int .u32 0, .bool false]) ?_ 1 _ (by first | rfl | simp [ByteArray.size_append]); (with_reducible repeat (first | refine blk_drewN ?_ _ | refine blk_drew ?_ | refine blk_alloc ?_ _)); refine blk_put (cs := #[.int .u32 0, .int .u32 0, .bool false]) ?_ 0 _ (by first | rfl | simp [ByteArray.size_append]); (with_reducible repeat (first | refine blk_drewN ?_ _ | refine blk_drew ?_ | refine blk_alloc ?_ _)); exact BK209.out) hb); have n4_ := Aside0.mk (blk_below (g := gb210) (o := .cells #[.int .u32 t206, .int .u32 t207, .bool t208] 24 (0, 0)) (by (with_reducible repeat (first | refine blk_drewN ?_ _ | refine blk_drew ?_ | refine blk_alloc ?_ _)); refine blk_put (cs := #[.int .u32 t206, .int .u32 t207, .bool false]) ?_ 2 _ (by first | rfl | simp [ByteArray.size_append]); (with_reducible repeat (first | refine blk_drewN ?_ _ | refine blk_drew ?_ | refine blk_alloc ?_ _)); refine blk_put (cs := #[.int .u32 t206, .int .u32 0, .bool false]) ?_ 1 _ (by first | rfl | simp [ByteArray.size_append]); (with_reducible repeat (first | refine blk_drewN ?_ _ | refine blk_drew ?_ | refine blk_alloc ?_ _)); refine blk_put (cs := #[.int .u32 0, .int .u32 0, .bool false]) ?_ 0 _ (by first | rfl | simp [ByteArray.size_append]); (with_reducible repeat (first | refine blk_drewN ?_ _ | refine blk_drew ?_ | refine blk_alloc ?_ _)); refine blk_far ?_ NB210_209.out _; (with_reducible repeat (first | refine blk_drewN ?_ _ | refine blk_drew ?_ | refine blk_alloc ?_ _)); refine blk_far ?_ NB210_209.out _; (with_reducible repeat (first | refine blk_drewN ?_ _ | refine blk_drew ?_ | refine blk_alloc ?_ _)); refine blk_far ?_ NB210_209.out _; (with_reducible repeat (first | refine blk_drewN ?_ _ | refine blk_drew ?_ | refine blk_alloc ?_ _)); exact BK210.out) hb); have n5_ := Aside0.mk (below_step (by repeat (first | (with_reducible first | exact HB.out | apply below_alloc | apply pw_below_drewN | apply below_drew1 | refine below_set ?_ GE191.out | refine below_set ?_ GE192.out | refine below_set ?_ GE202.out | refine below_set ?_ GE209.out | refine below_set ?_ GE210.out) | exact HB.out)) hb); clear BK191; clear BK192; clear BK202; clear BK209; clear BK210; clear HB; have BK191 := n0_; have BK192 := n1_; have BK202 := n2_; have BK209 := n3_; have BK210 := n4_; have HB := n5_; clear n0_ n1_ n2_ n3_ n4_ n5_; (try clear hb); (try clear hb2); (try clear hk); (try clear hi); have hnb42 := NB209_191.out; have hnc42 := NB191_209.out; have hnb43 := NB209_192.out; have hnc43 := NB192_209.out; have hnb44 := NB209_202.out; have hnc44 := NB202_209.out; have hnb45 := NB209_210.out; have hnc45 := NB210_209.out; have hcz46_0 : w41.cell? ⟨gb209, 0, none⟩ = some (.int .u32 t203) := (blk_cell BK209.out 0).trans rfl; have hcz46_1 : w41.cell? ⟨gb209, 1, none⟩ = some (.int .u32 t204) := (blk_cell BK209.out 1).trans rfl; have hcz46_2 : w41.cell? ⟨gb209, 2, none⟩ = some (.bool false) := (blk_cell BK209.out 2).trans rfl; have hfz46_0 := blk_frozen BK209.out 0; have hfz46_1 := blk_frozen BK209.out 1; have hfz46_2 := blk_frozen BK209.out 2; have hnb47 := NB210_191.out; have hnc47 := NB191_210.out; have hnb48 := NB210_192.out; have hnc48 := NB192_210.out; have hnb49 := NB210_202.out; have hnc49 := NB202_210.out; have hcz50_0 : w41.cell? ⟨gb210, 0, none⟩ = some (.int .u32 t206) := (blk_cell BK210.out 0).trans rfl; have hcz50_1 : w41.cell? ⟨gb210, 1, none⟩ = some (.int .u32 t207) := (blk_cell BK210.out 1).trans rfl; have hcz50_2 : w41.cell? ⟨gb210, 2, none⟩ = some (.bool t208) := (blk_cell BK210.out 2).trans rfl; have hfz50_0 := blk_frozen BK210.out 0; have hfz50_1 := blk_frozen BK210.out 1; have hfz50_2 := blk_frozen BK210.out 2))
      go_ret
      exact ⟨by first | rfl | (simp [errW_none, errW_some] <;> rfl) | (simp [*, errW_none, errW_some] <;> rfl) | (simp [errW_none, errW_some, IntKind.wrap_u32, IntKind.wrap_u8, IntKind.wrap_u64, IntKind.wrap_i64, Int.tmod_eq_emod_of_nonneg] <;> omega) | (simp [errW_none, errW_some] <;> (rw [Bool.eq_iff_iff]; simp)), by repeat (first | (with_reducible first | exact HB.out | apply below_alloc | apply pw_below_drewN | apply below_drew1 | refine below_set ?_ GE191.out | refine below_set ?_ GE192.out | refine below_set ?_ GE202.out | refine below_set ?_ GE209.out | refine below_set ?_ GE210.out) | exact HB.out)⟩

end Go.Proofs.Ytjdoabeaoeihhaa.X
