/- timer.Parse: what the call answers; it reads the bytes by a function value of its own. -/
import Derived.Test.YtjdoabeaoeihhaaProg
import Derived.Test.YtjdoabeaoeihhaaWWords
import Derived.WalkKit
import Derived.Below
import Derived.RegionTactic
import Derived.Outline
import Derived.Lib.Hide
import Derived.Laws.BitsAllLaws
import Derived.Laws.ResultCell
import Derived.Deep.QuietTactic
import Derived.Deep.RegionWith
import Derived.BigQuiet
namespace Go.Proofs.Ytjdoabeaoeihhaa.Ext
open Go.RowKit Go.Proofs.YtjdoabeaoeihhaaW.PrintWords

/-- The number of k bytes from a place on. -/
def word (s : ByteArray) (at_ : Int) : Nat → Int
  | 0 => 0
  | k + 1 => word s at_ k * 256 + bt s (at_ + k)
theorem word_range (s : ByteArray) (a : Int) (k : Nat) (hk : k ≤ 4) : 0 ≤ word s a k ∧ word s a k < 256 ^ k := by
  induction k with
  | zero => simp [word]
  | succ k ih =>
    have := ih (by omega)
    have hb := bt_range s (a + k)
    simp only [word, Int.pow_succ]
    omega
theorem or_byte (v b : Int) (hv : 0 ≤ v) (hv1 : v < 16777216) (hb : 0 ≤ b) (hb1 : b ≤ 255) : Go.bits .or .u32 (v * 256 % 4294967296) b = v * 256 + b := by
  rw [Int.emod_eq_of_lt (by omega) (by omega)]
  exact bits_join .u32 32 (by decide) (fun n h0 h1 => by rw [IntKind.wrap_u32]; omega) 8 (v * 256) b (by omega) (by omega) (by omega) hb (by omega) (by omega)

set_option maxHeartbeats 400000 in
theorem parse_word (s : ByteArray) (b : Nat) (a : Nat) (w : World) (ha : a + 4 ≤ s.size) (hs : s.size ≤ 9) (hc : w.cell? ⟨b, 0, none⟩ = some (.string s)) :
    Calls Try.prog 23 #[.int .i64 a, .pointer (some ⟨b, 0, none⟩)] w fun e w' => e = .returned (.int .u32 (word s a 4)) ∧ w' = w := by
  go_enter Try.func23, Try.ntmps23
  go_wp2
  go_loop [4, 6] (fun v i => ∃ k : Nat, k ≤ 4 ∧ i = .int .i64 k ∧ v = .int .u32 (word s a k)) (fun _ i => 4 - (intOf i).toNat)
  case atStart => exact ⟨0, by omega, rfl, rfl⟩
  case round =>
    obtain ⟨k, hk, rfl, rfl⟩ := hrel
    have hr := word_range s a k hk
    by_cases hlt : k < 4
    · have hp : (256 : Int) ^ k ≤ 16777216 := by
        match k, hlt with
        | 0, _ => decide
        | 1, _ => decide
        | 2, _ => decide
        | 3, _ => decide
      have hb := bt_range s ((a : Int) + k)
      have g : ∀ h : a + k < s.size, ((s[a + k]'h).toNat : Int) = bt s ((a : Int) + k) := fun h => by
        have := bt_at s ((a : Int) + k) (by omega)
        rw [← this]; congr 2
      have ho := Lib.hid (or_byte (word s a k) (bt s ((a : Int) + k)) hr.1 (by omega) hb.1 hb.2)
      clear hr hp
      have hin : a + k < s.size := by omega
      go_wp2
      go_round
      case rel =>
        exact ⟨k + 1, by omega, by go_num, by rw [ho.out]; rfl⟩
      case measure => simp [intOf]; omega
    · obtain rfl : k = 4 := by omega
      go_wp2
      go_ret
      exact ⟨rfl, rfl⟩

theorem parse_word0 (s : ByteArray) (b : Nat) (w : World) (ha : 8 < s.size) (hs : s.size ≤ 9) (hc : w.cell? ⟨b, 0, none⟩ = some (.string s)) :
    Calls Try.prog 23 #[.int .i64 0, .pointer (some ⟨b, 0, none⟩)] w fun e w' => e = .returned (.int .u32 (word s 0 4)) ∧ w' = w := parse_word s b 0 w (by omega) hs hc
theorem parse_word4 (s : ByteArray) (b : Nat) (w : World) (ha : 8 < s.size) (hs : s.size ≤ 9) (hc : w.cell? ⟨b, 0, none⟩ = some (.string s)) :
    Calls Try.prog 23 #[.int .i64 4, .pointer (some ⟨b, 0, none⟩)] w fun e w' => e = .returned (.int .u32 (word s 4 4)) ∧ w' = w := parse_word s b 4 w (by omega) hs hc

def timer_Parse.f (s : ByteArray) : Option (Int × Int × Bool × Int) :=
  if s.size = 9 ∧ bt s 8 ≤ 1 then some (word s 0 4, word s 4 4, bt s 8 == 1, 0) else some (0, 0, false, 90)

def Gives (w : World) (v : Value) (e : Ending) (w' : World) : Prop := e = .returned v ∧ Below w.heap.size w w'
set_option maxHeartbeats 400000 in
theorem parse_size (s : ByteArray) (w : World) (h : ((s.size : Int) != 9) = true) :
    Calls Try.prog 17 #[.string s] w (Gives w (.tuple #[.agg #[.int .u32 0, .int .u32 0, .bool false], .int .i64 90])) := by
  go_enter Try.func17, Try.ntmps17
  go_wp2
  exact bodyPost_ret (v := .tuple #[.agg #[.int .u32 0, .int .u32 0, .bool false], .int .i64 90]) (by simp [results, Try.results17, go_sem]) rfl ⟨rfl, by (repeat (first | exact Below.refl _ _ | refine Below.drew ?_ | refine Below.setCell ?_ (by simp) _ | refine Below.alloc ?_ (by simp) _ | refine Below.alloc ?_ (by simp; omega) _))⟩
set_option maxHeartbeats 400000 in
theorem parse_last (s : ByteArray) (w : World) (h0 : s.size = 9) (h1 : 1 < bt s 8) :
    Calls Try.prog 17 #[.string s] w (Gives w (.tuple #[.agg #[.int .u32 0, .int .u32 0, .bool false], .int .i64 90])) := by
  have g8 : ∀ h : 8 < s.size, ((s[8]'h).toNat : Int) = bt s 8 := fun h => bt_at s 8 h
  have h2 : 8 < s.size := by omega
  have h3 : ((s.size : Int) != 9) = false := by rw [h0]; rfl
  clear h0
  go_enter Try.func17, Try.ntmps17
  go_wp2
  exact bodyPost_ret (v := .tuple #[.agg #[.int .u32 0, .int .u32 0, .bool false], .int .i64 90]) (by simp [results, Try.results17, go_sem]) rfl ⟨rfl, by (repeat (first | exact Below.refl _ _ | refine Below.drew ?_ | refine Below.setCell ?_ (by simp) _ | refine Below.alloc ?_ (by simp) _ | refine Below.alloc ?_ (by simp; omega) _))⟩
set_option maxHeartbeats 400000 in
theorem parse_good (s : ByteArray) (w : World) (h0 : s.size = 9) (h1 : bt s 8 ≤ 1) :
    Calls Try.prog 17 #[.string s] w (Gives w (.tuple #[.agg #[.int .u32 (word s 0 4), .int .u32 (word s 4 4), .bool (bt s 8 == 1)], .int .i64 0])) := by
  have g8 : ∀ h : 8 < s.size, ((s[8]'h).toNat : Int) = bt s 8 := fun h => bt_at s 8 h
  have h2 : 8 < s.size := by omega
  have h3 : ((s.size : Int) != 9) = false := by rw [h0]; rfl
  have h4 : s.size ≤ 9 := by omega
  clear h0
  go_enter Try.func17, Try.ntmps17
  go_wp2
  go_region_with (first | (go_at_call 23; ((with_reducible refine (parse_word0 s _ _ (by assumption) (by assumption) (by go_simp)).mono ?_); rintro e w' ⟨rfl, rfl⟩)) | (go_at_call 23; ((with_reducible refine (parse_word4 s _ _ (by assumption) (by assumption) (by go_simp)).mono ?_); rintro e w' ⟨rfl, rfl⟩)))
  all_goals
    go_wp2
    exact bodyPost_ret (v := .tuple #[.agg #[.int .u32 (word s 0 4), .int .u32 (word s 4 4), .bool (bt s 8 == 1)], .int .i64 0]) (by simp [results, Try.results17, go_sem]) rfl ⟨rfl, by (repeat (first | exact Below.refl _ _ | refine Below.drew ?_ | refine Below.setCell ?_ (by simp) _ | refine Below.alloc ?_ (by simp) _ | refine Below.alloc ?_ (by simp; omega) _))⟩
theorem timer_Parse.calls (a0 : ByteArray) (r1 : Int) (r2 : Int) (r3 : Bool) (r4 : Int) (w : World) (h : timer_Parse.f a0 = some (r1, r2, r3, r4)) :
    Calls Try.prog 17 #[.string a0] w fun e w' => e = .returned (.tuple #[.agg #[.int .u32 r1, .int .u32 r2, .bool r3], .int .i64 r4]) ∧ Below w.heap.size w w' := by
  unfold timer_Parse.f at h
  by_cases c : a0.size = 9
  · by_cases c1 : bt a0 8 ≤ 1
    · rw [if_pos ⟨c, c1⟩] at h
      simp only [Option.some.injEq, Prod.mk.injEq] at h; obtain ⟨rfl, rfl, rfl, rfl⟩ := h
      exact parse_good a0 w c c1
    · rw [if_neg (fun h => c1 h.2)] at h
      simp only [Option.some.injEq, Prod.mk.injEq] at h; obtain ⟨rfl, rfl, rfl, rfl⟩ := h
      exact parse_last a0 w c (by omega)
  · rw [if_neg (fun h => c h.1)] at h
    simp only [Option.some.injEq, Prod.mk.injEq] at h; obtain ⟨rfl, rfl, rfl, rfl⟩ := h
    exact parse_size a0 w (by rw [bne_iff_ne]; omega)
end Go.Proofs.Ytjdoabeaoeihhaa.Ext
