/- uart.Parse: what the call answers, by a walk over its goto. -/
import Derived.Test.YtbkonaalbahojaaProg
import Derived.Test.YtbkonaalbahojaaWWords
import Derived.WalkKit
import Derived.Below
import Derived.ScopeJumps
import Derived.WalkMore
import Derived.RegionTactic
import Derived.Outline
import Derived.Lib.Hide
import Derived.Laws.ResultCell
namespace Go.Proofs.Ytbkonaalbahojaa.Ext
open Go.RowKit Go.Proofs.YtbkonaalbahojaaW.PrintWords

/-- A scope in which the run jumps at most once, forward, to label l. -/
def OnceTo (P : Program) (l : Nat) (rest : Code) (Q : Exit → Act → World → Prop) : Exit → Act → World → Prop
  | .goto l', a, w => l' = l ∧ rest.wp P (Exit.noGoto Q) a w
  | e, a, w => Q e a w
theorem wp_scope_once {P : Program} {a : Act} {w : World} {Q : Exit → Act → World → Prop} {c rest : Code} (l : Nat) (hf : findLabel c l = some rest)
    (h : c.wp P (OnceTo P l rest Q) a w) : (Code.scope c).wp P Q a w := by
  refine wp_scope_jumps l (fun a w => rest.wp P (Exit.noGoto Q) a w) (fun _ _ => 0) hf ?_ ?_
  · refine wp_mono h ?_
    intro e a w hq
    cases e <;> exact hq
  · intro a w hJ
    refine wp_mono hJ ?_
    intro e a w hq
    cases e <;> first | exact hq | exact hq.elim

/-- What stands behind the two first bytes, and behind the bytes that came in. -/
def tail2 (s : ByteArray) : ByteArray := s.extract 2 s.size
def tail3 (s : ByteArray) : ByteArray := (tail2 s).extract (bt s 1).toNat (tail2 s).size
def bad : ByteArray × ByteArray × Bool × Int := (⟨#[]⟩, ⟨#[]⟩, false, 100)
def uart_Parse.f (s : ByteArray) : Option (ByteArray × ByteArray × Bool × Int) :=
  if s.size < 3 ∨ 1 < bt s 0 then some bad
  else if 16 < bt s 1 ∨ (s.size : Int) - 2 ≤ bt s 1 then some bad
  else if 64 < bt (tail3 s) 0 ∨ bt (tail3 s) 0 ≠ (s.size : Int) - 3 - bt s 1 then some bad
  else some ((tail2 s).extract 0 (bt s 1).toNat, (tail3 s).extract 1 (tail3 s).size, bt s 0 == 1, 0)

/-- What a parse that fails answers. -/
def Fails (w : World) (e : Ending) (w' : World) : Prop := e = .returned (.tuple #[.agg #[.string ⟨#[]⟩, .string ⟨#[]⟩, .bool false], .int .i64 100]) ∧ Below w.heap.size w w'
def Comes (s : ByteArray) (w : World) (e : Ending) (w' : World) : Prop := ∀ r1 r2 r3 r4, uart_Parse.f s = some (r1, r2, r3, r4) → e = .returned (.tuple #[.agg #[.string r1, .string r2, .bool r3], .int .i64 r4]) ∧ Below w.heap.size w w'
theorem comes_of {s : ByteArray} {w w' : World} {a b : ByteArray} {c : Bool} {d : Int} (h : uart_Parse.f s = some (a, b, c, d)) (hb : Below w.heap.size w w') : Comes s w (.returned (.tuple #[.agg #[.string a, .string b, .bool c], .int .i64 d])) w' := by
  intro r1 r2 r3 r4 hf
  rw [h] at hf
  simp only [Option.some.injEq, Prod.mk.injEq] at hf
  obtain ⟨rfl, rfl, rfl, rfl⟩ := hf
  exact ⟨rfl, hb⟩
theorem comes_bad {s : ByteArray} {w w' : World} (h : uart_Parse.f s = some bad) (hb : Below w.heap.size w w') : Comes s w (.returned (.tuple #[.agg #[.string ⟨#[]⟩, .string ⟨#[]⟩, .bool false], .int .i64 100])) w' := comes_of h hb
set_option maxHeartbeats 400000 in
theorem parse_short (s : ByteArray) (w : World) (h : s.size < 3) :
    Calls Try.prog 17 #[.string s] w (Fails w) := by
  go_enter Try.func17, Try.ntmps17
  go_wp2
  refine wp_scope_once 0 rfl ?_
  go_wp2
  apply wp_goto
  refine ⟨rfl, ?_⟩
  go_wp2
  exact bodyPost_ret (v := .tuple #[.agg #[.string ⟨#[]⟩, .string ⟨#[]⟩, .bool false], .int .i64 100]) (by simp [results, Try.results17, go_sem]) rfl ⟨rfl, by (repeat (first | exact Below.refl _ _ | refine Below.drew ?_ | refine pw_below_drewN ?_ _ | refine Below.setCell ?_ (by simp) _ | refine Below.alloc ?_ (by simp) _ | refine Below.alloc ?_ (by omega) _ | refine Below.alloc ?_ (by simp; omega) _))⟩

set_option maxHeartbeats 400000 in
theorem parse_first (s : ByteArray) (w : World) (h : 3 ≤ s.size) (h2 : 1 < bt s 0) :
    Calls Try.prog 17 #[.string s] w (Fails w) := by
  have g0 : ∀ h : 0 < s.size, ((s[0]'h).toNat : Int) = bt s 0 := fun h => bt_at s 0 h
  have g1 : ∀ h : 1 < s.size, ((s[1]'h).toNat : Int) = bt s 1 := fun h => bt_at s 1 h
  have b1 := bt_range s 1
  go_enter Try.func17, Try.ntmps17
  go_wp2
  refine wp_scope_once 0 rfl ?_
  go_wp2
  apply wp_goto
  refine ⟨rfl, ?_⟩
  go_wp2
  exact bodyPost_ret (v := .tuple #[.agg #[.string ⟨#[]⟩, .string ⟨#[]⟩, .bool false], .int .i64 100]) (by simp [results, Try.results17, go_sem]) rfl ⟨rfl, by (repeat (first | exact Below.refl _ _ | refine Below.drew ?_ | refine pw_below_drewN ?_ _ | refine Below.setCell ?_ (by simp) _ | refine Below.alloc ?_ (by simp) _ | refine Below.alloc ?_ (by omega) _ | refine Below.alloc ?_ (by simp; omega) _))⟩

set_option maxHeartbeats 400000 in
theorem parse_in (s : ByteArray) (w : World) (h : 3 ≤ s.size) (h2 : bt s 0 ≤ 1) (h3 : 16 < bt s 1) :
    Calls Try.prog 17 #[.string s] w (Fails w) := by
  have g0 : ∀ h : 0 < s.size, ((s[0]'h).toNat : Int) = bt s 0 := fun h => bt_at s 0 h
  have g1 : ∀ h : 1 < s.size, ((s[1]'h).toNat : Int) = bt s 1 := fun h => bt_at s 1 h
  have b1 := bt_range s 1
  go_enter Try.func17, Try.ntmps17
  go_wp2
  refine wp_scope_once 0 rfl ?_
  go_wp2
  go_region
  go_wp2
  apply wp_goto
  refine ⟨rfl, ?_⟩
  go_wp2
  exact bodyPost_ret (v := .tuple #[.agg #[.string ⟨#[]⟩, .string ⟨#[]⟩, .bool false], .int .i64 100]) (by simp [results, Try.results17, go_sem]) rfl ⟨rfl, by (repeat (first | exact Below.refl _ _ | refine Below.drew ?_ | refine pw_below_drewN ?_ _ | refine Below.setCell ?_ (by simp) _ | refine Below.alloc ?_ (by simp) _ | refine Below.alloc ?_ (by omega) _ | refine Below.alloc ?_ (by simp; omega) _))⟩

set_option maxHeartbeats 400000 in
theorem parse_in2 (s : ByteArray) (w : World) (h : 3 ≤ s.size) (h2 : bt s 0 ≤ 1) (h3 : bt s 1 ≤ 16) (h4 : (s.size : Int) - 2 ≤ bt s 1) :
    Calls Try.prog 17 #[.string s] w (Fails w) := by
  have g0 : ∀ h : 0 < s.size, ((s[0]'h).toNat : Int) = bt s 0 := fun h => bt_at s 0 h
  have g1 : ∀ h : 1 < s.size, ((s[1]'h).toNat : Int) = bt s 1 := fun h => bt_at s 1 h
  have b1 := bt_range s 1
  have h5 : ((s.size - 2 : Nat) : Int) ≤ bt s 1 := by omega
  go_enter Try.func17, Try.ntmps17
  go_wp2
  refine wp_scope_once 0 rfl ?_
  go_wp2
  go_region
  go_wp2
  apply wp_goto
  refine ⟨rfl, ?_⟩
  go_wp2
  exact bodyPost_ret (v := .tuple #[.agg #[.string ⟨#[]⟩, .string ⟨#[]⟩, .bool false], .int .i64 100]) (by simp [results, Try.results17, go_sem]) rfl ⟨rfl, by (repeat (first | exact Below.refl _ _ | refine Below.drew ?_ | refine pw_below_drewN ?_ _ | refine Below.setCell ?_ (by simp) _ | refine Below.alloc ?_ (by simp) _ | refine Below.alloc ?_ (by omega) _ | refine Below.alloc ?_ (by simp; omega) _))⟩

set_option maxHeartbeats 400000 in
theorem parse_ok (s : ByteArray) (w : World) (h : 3 ≤ s.size) (h2 : bt s 0 ≤ 1) (h3 : bt s 1 ≤ 16) (h4 : bt s 1 < (s.size : Int) - 2) :
    Calls Try.prog 17 #[.string s] w (Comes s w) := by
  have g0 : ∀ h : 0 < s.size, ((s[0]'h).toNat : Int) = bt s 0 := fun h => bt_at s 0 h
  have g1 : ∀ h : 1 < s.size, ((s[1]'h).toNat : Int) = bt s 1 := fun h => bt_at s 1 h
  have b1 := bt_range s 1
  obtain ⟨n, hn⟩ := Int.eq_ofNat_of_zero_le b1.1
  have hs2 : (s.extract 2 s.size).size = s.size - 2 := by simp
  obtain ⟨s2, e2⟩ : ∃ s2, s2 = s.extract 2 s.size := ⟨_, rfl⟩
  rw [← e2] at hs2
  rw [hn] at h3 h4 g1
  clear b1
  have H2 := Lib.hid e2; clear e2
  have HN := Lib.hid hn; clear hn
  have h5 : (n : Int) < ((s.size - 2 : Nat) : Int) := by omega
  go_enter Try.func17, Try.ntmps17
  go_wp2
  refine wp_scope_once 0 rfl ?_
  go_wp2
  go_region
  go_wp2
  go_region
  go_wp2
  have hz : ((s.extract 2 s.size).extract n (s.size - 2)).size = s.size - 2 - n := by simp
  obtain ⟨s3, e3⟩ : ∃ s3, s3 = (s.extract 2 s.size).extract n (s.size - 2) := ⟨_, rfl⟩
  rw [← e3] at hz ⊢
  have H3 := Lib.hid e3; clear e3
  have hz0 : 0 < s3.size := by omega
  have hz1 : s3.size + 2 + n = s.size := by omega
  clear hz
  have g3 : ∀ h : 0 < s3.size, ((s3[0]'h).toNat : Int) = bt s3 0 := fun h => bt_at s3 0 h
  have b3 := bt_range s3 0
  have e64 : wrap64 (bt s3 0) = bt s3 0 := by unfold wrap64; omega
  have hout : ((64 < bt s3 0 ∨ bt s3 0 ≠ ((s3.size - 1 : Nat) : Int)) → uart_Parse.f s = some bad) ∧ (¬ (64 < bt s3 0 ∨ bt s3 0 ≠ ((s3.size - 1 : Nat) : Int)) → uart_Parse.f s = some ((s.extract 2 s.size).extract 0 n, s3.extract 1 s3.size, bt s 0 == 1, 0)) := by
    have t3 : tail3 s = s3 := by
      unfold tail3 tail2
      rw [HN.out, Int.toNat_natCast, H3.out]; congr 1; simp
    have c1 : ¬ (s.size < 3 ∨ 1 < bt s 0) := by omega
    have c2 : ¬ (16 < bt s 1 ∨ (s.size : Int) - 2 ≤ bt s 1) := by have := HN.out; omega
    have c3 : ((s3.size - 1 : Nat) : Int) = (s.size : Int) - 3 - bt s 1 := by have := HN.out; omega
    unfold uart_Parse.f
    rw [if_neg c1, if_neg c2, t3, ← c3]
    constructor
    · intro h; rw [if_pos h]
    · intro h; rw [if_neg h]; unfold tail2; rw [HN.out, Int.toNat_natCast]
  have HO := Lib.hid hout; clear hout
  go_region
  go_wp2
  · have hb : 64 < bt s3 0 ∨ bt s3 0 ≠ ((s3.size - 1 : Nat) : Int) := by
      have z : 64 < bt s3 0 ∨ (bt s3 0 != ((s3.size - 1 : Nat) : Int)) = true := by assumption
      rcases z with z | z
      · exact .inl z
      · exact .inr (by simpa using z)
    have HB := Lib.hid hb; clear hb
    apply wp_goto
    refine ⟨rfl, ?_⟩
    go_wp2
    exact bodyPost_ret (v := .tuple #[.agg #[.string ⟨#[]⟩, .string ⟨#[]⟩, .bool false], .int .i64 100]) (by simp [results, Try.results17, go_sem]) rfl (comes_bad (HO.out.1 HB.out) (by (repeat (first | exact Below.refl _ _ | refine Below.drew ?_ | refine pw_below_drewN ?_ _ | refine Below.setCell ?_ (by simp) _ | refine Below.alloc ?_ (by simp) _ | refine Below.alloc ?_ (by omega) _ | refine Below.alloc ?_ (by simp; omega) _))))
  · have hb : ¬ (64 < bt s3 0 ∨ bt s3 0 ≠ ((s3.size - 1 : Nat) : Int)) := by
      have z : bt s3 0 ≤ 64 ∧ (bt s3 0 != ((s3.size - 1 : Nat) : Int)) = false := by assumption
      have z2 : bt s3 0 = ((s3.size - 1 : Nat) : Int) := by simpa using z.2
      rintro (y | y)
      · omega
      · exact y z2
    have HB := Lib.hid hb; clear hb
    exact bodyPost_ret (v := .tuple #[.agg #[.string ((s.extract 2 s.size).extract 0 n), .string (s3.extract 1 s3.size), .bool (bt s 0 == 1)], .int .i64 0]) (by simp [results, Try.results17, go_sem]) rfl (comes_of (HO.out.2 HB.out) (by (repeat (first | exact Below.refl _ _ | refine Below.drew ?_ | refine pw_below_drewN ?_ _ | refine Below.setCell ?_ (by simp) _ | refine Below.alloc ?_ (by simp) _ | refine Below.alloc ?_ (by omega) _ | refine Below.alloc ?_ (by simp; omega) _))))
  · have hb : 64 < bt s3 0 ∨ bt s3 0 ≠ ((s3.size - 1 : Nat) : Int) := by
      have z : 64 < bt s3 0 := by assumption
      exact .inl z
    have HB := Lib.hid hb; clear hb
    apply wp_goto
    refine ⟨rfl, ?_⟩
    go_wp2
    exact bodyPost_ret (v := .tuple #[.agg #[.string ⟨#[]⟩, .string ⟨#[]⟩, .bool false], .int .i64 100]) (by simp [results, Try.results17, go_sem]) rfl (comes_bad (HO.out.1 HB.out) (by (repeat (first | exact Below.refl _ _ | refine Below.drew ?_ | refine pw_below_drewN ?_ _ | refine Below.setCell ?_ (by simp) _ | refine Below.alloc ?_ (by simp) _ | refine Below.alloc ?_ (by omega) _ | refine Below.alloc ?_ (by simp; omega) _))))

theorem uart_Parse.calls (a0 : ByteArray) (r1 : ByteArray) (r2 : ByteArray) (r3 : Bool) (r4 : Int) (w : World) (h : uart_Parse.f a0 = some (r1, r2, r3, r4)) :
    Calls Try.prog 17 #[.string a0] w fun e w' => e = .returned (.tuple #[.agg #[.string r1, .string r2, .bool r3], .int .i64 r4]) ∧ Below w.heap.size w w' := by
  have bad_ : uart_Parse.f a0 = some bad → ∀ e w', Fails w e w' → e = .returned (.tuple #[.agg #[.string r1, .string r2, .bool r3], .int .i64 r4]) ∧ Below w.heap.size w w' := by
    intro hb e w' hf
    obtain ⟨rfl, hw⟩ := hf
    exact comes_bad hb hw r1 r2 r3 r4 h
  by_cases c0 : a0.size < 3
  · exact (parse_short a0 w c0).mono (bad_ (by unfold uart_Parse.f; rw [if_pos (.inl c0)]))
  by_cases c1 : 1 < bt a0 0
  · exact (parse_first a0 w (by omega) c1).mono (bad_ (by unfold uart_Parse.f; rw [if_pos (.inr c1)]))
  have n1 : ¬ (a0.size < 3 ∨ 1 < bt a0 0) := by omega
  by_cases c2 : 16 < bt a0 1
  · exact (parse_in a0 w (by omega) (by omega) c2).mono (bad_ (by unfold uart_Parse.f; rw [if_neg n1, if_pos (.inl c2)]))
  by_cases c3 : (a0.size : Int) - 2 ≤ bt a0 1
  · exact (parse_in2 a0 w (by omega) (by omega) (by omega) c3).mono (bad_ (by unfold uart_Parse.f; rw [if_neg n1, if_pos (.inr c3)]))
  exact (parse_ok a0 w (by omega) (by omega) (by omega) (by omega)).mono fun e w' hq => hq r1 r2 r3 r4 h

end Go.Proofs.Ytbkonaalbahojaa.Ext
