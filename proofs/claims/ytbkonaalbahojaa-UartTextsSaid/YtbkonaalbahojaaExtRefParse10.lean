/- The reference's parse of a uart, by a walk of its own: it answers as the program's. -/
import Derived.Test.YtbkonaalbahojaaExtTwins10t
import Derived.LoopTactic
namespace Go.Proofs.Ytbkonaalbahojaa.Ext
open Go.RowKit Go.Proofs.YtbkonaalbahojaaW.PrintWords Go.Proofs.Ytbkonaalbahojaa.X

theorem below_call {w W w1 : World} (h : Below w.heap.size w W) (hb : Below W.heap.size W w1) : Below w.heap.size w w1 := h.trans (hb.mono h.size)
def Match (s : ByteArray) (n : Nat) : Prop := 3 + n ≤ s.size ∧ n ≤ 16 ∧ s.size - 3 - n ≤ 64 ∧ bt s 0 ≤ 1 ∧ bt s 1 = n ∧ bt s (2 + n) = (s.size : Int) - 3 - n
theorem tail3_bt (s : ByteArray) (n : Nat) (h1 : bt s 1 = n) : bt (tail3 s) 0 = bt s (2 + n) ∧ (tail2 s).extract 0 (bt s 1).toNat = s.extract 2 (2 + n) ∧ (tail3 s).extract 1 (tail3 s).size = s.extract (3 + n) s.size := by
  have e1 : (bt s 1).toNat = n := by omega
  have d2 : (tail2 s).data.toList = s.data.toList.drop 2 := Bs.from_ s 2
  have d3 : (tail3 s).data.toList = s.data.toList.drop (2 + n) := by
    unfold tail3; rw [e1, Bs.from_, d2, List.drop_drop]
  refine ⟨?_, ?_, ?_⟩
  · rw [Bs.bt_eq, Bs.bt_eq, d3, show ((2 : Int) + n).toNat = 2 + n from by omega]
    simp [List.getD_eq_getElem?_getD]
  · apply Bs.inj; rw [e1, Bs.ext, Bs.ext, d2]
    simp
  · apply Bs.inj; rw [Bs.from_, Bs.from_, d3, List.drop_drop]
    congr 1; omega
theorem parse_match (s : ByteArray) (n : Nat) (h : Match s n) : uart_Parse.f s = some (s.extract 2 (2 + n), s.extract (3 + n) s.size, bt s 0 == 1, 0) := by
  obtain ⟨h1, h2, h3, h4, h5, h6⟩ := h
  obtain ⟨t1, t2, t3⟩ := tail3_bt s n h5
  unfold uart_Parse.f
  rw [if_neg (by omega), if_neg (by omega), if_neg (by rw [t1]; omega), t2, t3]
theorem parse_none (s : ByteArray) (h : ∀ n, ¬ Match s n) : uart_Parse.f s = some bad := by
  unfold uart_Parse.f
  have b1 := bt_range s 1
  split
  · rfl
  · split
    · rfl
    · split
      · rfl
      · rename_i c1 c2 c3
        exfalso
        have e : bt s 1 = ((bt s 1).toNat : Int) := by omega
        obtain ⟨t1, _, _⟩ := tail3_bt s (bt s 1).toNat e
        refine h (bt s 1).toNat ⟨by omega, by omega, ?_, by omega, e, ?_⟩
        · rw [t1] at c3; omega
        · rw [t1] at c3; omega
def zoetroperef10_Parse.f (s : ByteArray) : Option (ByteArray × ByteArray × Bool × Int) := if s.size ≤ 140737488351232 then uart_Parse.f s else none

/-- What a round may take for granted. -/
def AtR (w : World) (s : ByteArray) (n : Nat) (wr : World) : Prop :=
  wr.heap[w.heap.size]? = some (.cells #[.string ⟨#[]⟩, .string ⟨#[]⟩, .bool false] 23 (0, 0)) ∧ Below w.heap.size w wr ∧ ∀ j, j < n → ¬ Match s j
theorem not_more {s : ByteArray} {n : Nat} (h : ∀ j, j < n → ¬ Match s j) (hn : 16 < n ∨ s.size < 3 + n) : uart_Parse.f s = some bad := by
  refine parse_none s fun j hj => ?_
  by_cases c : j < n
  · exact h j c hj
  · have := hj.1
    have := hj.2.1
    omega
set_option maxHeartbeats 2000000 in
theorem refparse_any (s : ByteArray) (w : World) (hs : s.size ≤ 140737488351232) : Calls Try.prog 18 #[.string s] w (Comes s w) := by
  have g0 : ∀ h : 0 < s.size, ((s[0]'h).toNat : Int) = bt s 0 := fun h => bt_at s 0 h
  go_enter Try.func18, Try.ntmps18
  go_wp2
  go_loopw [4] (fun i wr => ∃ n : Nat, n ≤ 17 ∧ i = .int .i64 n ∧ AtR w s n wr) (fun i _ => 17 - (intOf i).toNat)
  case atStart => exact ⟨0, by omega, rfl, blk_new w _, by (repeat (first | exact Below.refl _ _ | refine Below.drew ?_ | refine pw_below_drewN ?_ _ | refine Below.setCell ?_ (by simp) _ | refine Below.alloc ?_ (by simp) _ | refine Below.alloc ?_ (by omega) _ | refine Below.alloc ?_ (by simp; omega) _)), fun j hj => by omega⟩
  case round =>
    obtain ⟨n, hn, rfl, hR, hW, hM⟩ := hrel
    have HR := Lib.hid hR
    have HW := Lib.hid hW
    have HM := Lib.hid hM
    have hlt := blk_lt hR
    have z0 : wr.cell? ⟨w.heap.size, 0, none⟩ = some (.string ⟨#[]⟩) := (blk_cell hR 0).trans rfl
    have z1 : wr.cell? ⟨w.heap.size, 1, none⟩ = some (.string ⟨#[]⟩) := (blk_cell hR 1).trans rfl
    have z2 : wr.cell? ⟨w.heap.size, 2, none⟩ = some (.bool false) := (blk_cell hR 2).trans rfl
    have y0 := blk_frozen hR 0
    have y1 := blk_frozen hR 1
    have y2 := blk_frozen hR 2
    clear hR hW hM
    by_cases c : n ≤ 16 ∧ 3 + n ≤ s.size
    · obtain ⟨c1, c2⟩ := c
      have k1 : (n : Int) ≤ 16 := by omega
      have k2 : (n : Int) ≤ (s.size : Int) - 3 := by omega
      have k3 : 0 < s.size := by omega
      have k4 : 2 + (n : Int) ≤ s.size := by omega
      have k5 : 3 + (n : Int) ≤ s.size := by omega
      have e2 : ((2 : Int) + n).toNat = 2 + n := by omega
      have e3 : ((3 : Int) + n).toNat = 3 + n := by omega
      have l2 : (2 : Int) ≤ 2 + n := by omega
      have l3 : (0 : Int) ≤ 3 + n := by omega
      have w2 : IntKind.i64.wrap (2 + (n : Int)) = 2 + n := by rw [IntKind.wrap_i64]; omega
      have w3 : IntKind.i64.wrap (3 + (n : Int)) = 3 + n := by rw [IntKind.wrap_i64]; omega
      go_wp2
      go_region
      clear e2 e3 w2 w3
      by_cases c4 : s.size - (3 + n) ≤ 64
      · have c5 : ((s.size - (3 + n) : Nat) : Int) ≤ 64 := by omega
        go_wp2_with fail
        obtain ⟨x, hx⟩ := ref_text_some (s.extract 2 (2 + n)) (s.extract (3 + n) s.size) (bt s 0 == 1) (by simp; omega) (by simp; omega)
        have hxd := (ref_data hx)
        have htm := text_match s n c2 c1 (by omega)
        rw [← hxd] at htm
        refine (zoetroperef10_Text.calls _ _ _ x _ hx).mono ?_
        rintro e w2 ⟨rfl, hb⟩
        have R2 := blk_below (g := w.heap.size) (o := .cells #[.string ⟨#[]⟩, .string ⟨#[]⟩, .bool false] 23 (0, 0)) (by first | exact blk_drew (blk_alloc HR.out _) | exact blk_alloc HR.out _) hb
        have U2 := blk_below (g := wr.heap.size) (o := .cells #[.string (s.extract 2 (2 + n)), .string (s.extract (3 + n) s.size), .bool (bt s 0 == 1)] 23 (0, 0)) (by first | exact blk_drew (blk_new _ _) | exact blk_new _ _) hb
        have hs2 := hb.size
        try simp at hs2
        have HB : Hid (Below w.heap.size w w2) := Lib.hid (below_call (by repeat (first | exact HW.out | refine Below.drew ?_ | refine Below.setCell ?_ (by first | omega | (simp; omega)) _ | refine Below.alloc ?_ (by first | omega | (simp; omega)) _)) hb)
        clear hb z0 z1 z2 y0 y1 y2 hx hxd
        have z0 : w2.cell? ⟨w.heap.size, 0, none⟩ = some (.string ⟨#[]⟩) := (blk_cell R2 0).trans rfl
        have z1 : w2.cell? ⟨w.heap.size, 1, none⟩ = some (.string ⟨#[]⟩) := (blk_cell R2 1).trans rfl
        have z2 : w2.cell? ⟨w.heap.size, 2, none⟩ = some (.bool false) := (blk_cell R2 2).trans rfl
        have y0 := blk_frozen R2 0
        have y1 := blk_frozen R2 1
        have y2 := blk_frozen R2 2
        have q0 : w2.cell? ⟨wr.heap.size, 0, none⟩ = some (.string (s.extract 2 (2 + n))) := (blk_cell U2 0).trans rfl
        have q1 : w2.cell? ⟨wr.heap.size, 1, none⟩ = some (.string (s.extract (3 + n) s.size)) := (blk_cell U2 1).trans rfl
        have q2 : w2.cell? ⟨wr.heap.size, 2, none⟩ = some (.bool (bt s 0 == 1)) := (blk_cell U2 2).trans rfl
        have HR2 := Lib.hid R2
        have HTM := Lib.hid htm
        clear R2 U2 htm
        by_cases m : x.toList = s.toList
        · have hm : Match s n := by
            have := HTM.out.1 (by rw [← Bs.toList, m, Bs.toList])
            exact ⟨c2, c1, by omega, this⟩
          have HP := Lib.hid (parse_match s n hm)
          clear hm
          have m1 : (x.toList == s.toList) = true := by simpa using m
          clear m
          go_wp2
          exact bodyPost_ret (v := .tuple #[.agg #[.string (s.extract 2 (2 + n)), .string (s.extract (3 + n) s.size), .bool (bt s 0 == 1)], .int .i64 0]) (by simp [results, Try.results18, go_sem, z0, z1, z2]) rfl (comes_of HP.out (by repeat (first | exact HB.out | refine Below.setCell ?_ (by simp) _)))
        · have hm : ¬ Match s n := fun h => m (by rw [Bs.toList, Bs.toList]; exact HTM.out.2 h.2.2.2)
          have HP := Lib.hid hm
          clear hm
          have m1 : (x.toList == s.toList) = false := by simpa using m
          clear m
          go_wp2
          go_roundw
          case rel => exact ⟨n + 1, by omega, by go_num, HR2.out, HB.out, fun j hj => if e : j = n then e ▸ HP.out else HM.out j (by omega)⟩
          case measure => simp [intOf]; omega
      · have c5 : ¬ ((s.size - (3 + n) : Nat) : Int) ≤ 64 := by omega
        go_wp2
        go_roundw
        case rel => exact ⟨n + 1, by omega, by go_num, by first | exact blk_drew (blk_alloc HR.out _) | exact blk_alloc HR.out _, by repeat (first | exact HW.out | refine Below.drew ?_ | refine Below.alloc ?_ (by first | omega | (simp; omega)) _), fun j hj => if e : j = n then e ▸ (fun h => by have := h.2.2.1; omega) else HM.out j (by omega)⟩
        case measure => simp [intOf]; omega
    · have hend := Lib.hid (not_more HM.out (show 16 < n ∨ s.size < 3 + n by omega))
      go_wp2
      all_goals exact bodyPost_ret (v := .tuple #[.agg #[.string ⟨#[]⟩, .string ⟨#[]⟩, .bool false], .int .i64 100]) (by simp [results, Try.results18, go_sem, z0, z1, z2]) rfl (comes_bad hend.out (by repeat (first | exact HW.out | refine Below.setCell ?_ (by simp) _)))
theorem zoetroperef10_Parse.calls (a0 : ByteArray) (r1 : ByteArray) (r2 : ByteArray) (r3 : Bool) (r4 : Int) (w : World) (h : zoetroperef10_Parse.f a0 = some (r1, r2, r3, r4)) :
    Calls Try.prog 18 #[.string a0] w fun e w' => e = .returned (.tuple #[.agg #[.string r1, .string r2, .bool r3], .int .i64 r4]) ∧ Below w.heap.size w w' := by
  unfold zoetroperef10_Parse.f at h
  by_cases c : a0.size ≤ 140737488351232
  · rw [if_pos c] at h
    exact (refparse_any a0 w c).mono fun e w' hq => hq r1 r2 r3 r4 h
  · rw [if_neg c] at h; cases h
theorem twin_zoetroperef10_Parse.same {s : ByteArray} {x y : ByteArray × ByteArray × Bool × Int} (h : uart_Parse.f s = some x) (h' : zoetroperef10_Parse.f s = some y) : x = y := by
  unfold zoetroperef10_Parse.f at h'
  split at h'
  · rw [h] at h'; exact Option.some.inj h'
  · cases h'
end Go.Proofs.Ytbkonaalbahojaa.Ext
