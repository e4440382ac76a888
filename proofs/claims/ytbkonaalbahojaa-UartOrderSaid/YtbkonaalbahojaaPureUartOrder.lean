/- What comes in is read in order, each byte once; what finds 16 waiting is lost. -/
import Derived.Test.YtbkonaalbahojaaXx9
import Derived.Test.YtbkonaalbahojaaBs
import Derived.Laws.Bits128
namespace Go.Proofs.Ytbkonaalbahojaa.Pure
open Go.RowKit Go.Proofs.Ytbkonaalbahojaa.X Go.Proofs.Ytbkonaalbahojaa.Ext Go.Proofs.YtbkonaalbahojaaW.PrintWords Go.Proofs.YtbkonaalbahojaaW.PrintLast

def inL (s : ByteArray) : List Int := s.data.toList.map fun b => (b.toNat : Int)
theorem inL_len (s : ByteArray) : (inL s).length = s.size := by unfold inL; rw [List.length_map, ← Bs.size]
theorem and255 (n : Int) : bits .and .i64 n 255 = n % 256 := by
  have h255 : (BitVec.ofInt 64 255).toNat = 2 ^ 8 - 1 := by decide
  have key : (BitVec.ofInt 64 n &&& BitVec.ofInt 64 255).toNat = (n % ((2 ^ 64 : Nat) : Int)).toNat % 2 ^ 8 := by
    rw [BitVec.toNat_and, BitVec.toNat_ofInt, h255, Nat.and_two_pow_sub_one_eq_mod]
  show IntKind.i64.wrap ((BitVec.ofInt 64 n &&& BitVec.ofInt 64 255).toNat : Nat) = n % 256
  rw [key, IntKind.wrap_i64]
  omega
theorem or_fixed : zoetropelaw10_fixed.f = some true := by decide +kernel
theorem or_feed_full (i o : ByteArray) (on : Bool) (c : Int) (h : 16 ≤ i.size) : uart_Feed.f i o on c = some (i, o, on, false) := by
  unfold uart_Feed.f; rw [if_pos (by omega)]
theorem or_feed (i o : ByteArray) (on : Bool) (c : Int) (h : i.size < 16) : uart_Feed.f i o on c = some (i ++ strOfNums [c], o, on, true) := by
  unfold uart_Feed.f
  rw [if_neg (by omega)]
  simp only [Option.bind_some]
  rw [if_pos (by rw [strOfNums_size]; simp; omega)]
theorem or_app (i : ByteArray) (c : Int) (h : 0 ≤ c ∧ c < 256) : inL (i ++ strOfNums [c]) = inL i ++ [c] := by
  unfold inL
  rw [Bs.app, Bs.nums, List.map_append]
  simp only [List.map_cons, List.map_nil, UInt8.toNat_ofNat']
  congr 2; omega
theorem or_read0 (i o : ByteArray) (on : Bool) (h : i.size = 0) : uart_Read.f i o on 0 = some (0, i, o, on, 0) := by
  unfold uart_Read.f
  have : i.toList = ([] : List UInt8) := by rw [Bs.toList]; exact List.eq_nil_of_length_eq_zero (by rw [← Bs.size]; exact h)
  rw [if_pos rfl, if_pos this]
theorem or_read1 (i o : ByteArray) (on : Bool) (h : 0 < i.size) : uart_Read.f i o on 0 = some (bt i 0 % 4294967296, i.extract 1 i.size, o, on, 0) := by
  unfold uart_Read.f
  have : ¬ i.toList = ([] : List UInt8) := by
    rw [Bs.toList]; intro e; have := Bs.size i; rw [e] at this; simp at this; rw [this] at h; simp at h
  rw [if_pos rfl, if_neg this, if_pos (by omega), if_pos (by omega)]
theorem or_first (i : ByteArray) : bt i 0 % 4294967296 = rd (inL i) 0 := by
  have hb := bt_range i 0
  have e : rd (inL i) 0 = bt i 0 := by
    have := rd_bytesOf i 0
    exact this
  rw [e]; omega
theorem or_rest (i : ByteArray) : inL (i.extract 1 i.size) = (inL i).drop 1 := by
  unfold inL; rw [Bs.from_, List.map_drop]
theorem or_read4 (i o : ByteArray) (on : Bool) : uart_Read.f i o on 4 = some ((i.size : Int) % 4294967296, i, o, on, 0) := by
  unfold uart_Read.f; rw [if_neg (by decide), if_pos rfl]
theorem or_wr (z : Nat) (h : z ≤ 16) : wrap64 ((z : Int) % 4294967296) = (z : Int) := by unfold wrap64; omega
theorem or_j3 (k : Nat) (l : List Int) (i : Int) (m o : ByteArray) (on : Bool) (hm : m.size ≤ 16) (hw : wrap64 (i + 1) = i + 1) :
    zoetropelaw10_UartOrder.j3 (k + 1) l (inL m) i false m o on = zoetropelaw10_UartOrder.l0 k l (inL m) (i + 1) m o on := by
  have hs : wrap64 ((m.size : Int) % 4294967296) = ((inL m).length : Int) := by rw [inL_len]; exact or_wr _ hm
  have h4 := or_read4 m o on
  generalize (m.size : Int) % 4294967296 = r at hs h4
  generalize inL m = x at hs ⊢
  rw [zoetropelaw10_UartOrder.j3, if_neg (by decide), h4, Option.bind_some]
  rw [if_pos rfl, if_pos hs, hw]
theorem or_j2 (k : Nat) (l x : List Int) (i v : Int) (m o : ByteArray) (on : Bool) :
    zoetropelaw10_UartOrder.j2 (k + 1) l x i v 0 v m o on = zoetropelaw10_UartOrder.j3 k l x i false m o on := by
  have hv : (v != v) = false := by simp
  rw [zoetropelaw10_UartOrder.j2, if_pos rfl, hv]
theorem or_loop (l : List Int) (d : Nat) : ∀ (i : Int) (n o : ByteArray) (on : Bool), 0 ≤ i → i ≤ 200 → 200 - i = d → n.size ≤ 16 → ∀ k, 5 * d + 5 ≤ k → zoetropelaw10_UartOrder.l0 k l (inL n) i n o on = some true := by
  induction d with
  | zero =>
    intro i n o on h0 h1 hd hz k hk
    obtain ⟨k, rfl⟩ : ∃ q, k = q + 2 := ⟨k - 2, by omega⟩
    have hf : decide (i < 200) = false := by simp; omega
    simp only [zoetropelaw10_UartOrder.l0, hf]
    have hj : zoetropelaw10_UartOrder.j1 (k + 1) l (inL n) i false n o on = some true := by
      simp only [zoetropelaw10_UartOrder.j1, Bool.false_eq_true, if_false, or_fixed, Option.bind_some]
    rw [hj]
    simp only [ite_self]
  | succ d ih =>
    intro i n o on h0 h1 hd hz k hk
    obtain ⟨k, rfl⟩ : ∃ q, k = q + 5 := ⟨k - 5, by omega⟩
    have hlen := inL_len n
    have hw : wrap64 (i + 1) = i + 1 := by unfold wrap64; omega
    have hf : decide (i < 200) = true := by simp; omega
    simp only [zoetropelaw10_UartOrder.l0, hf]
    by_cases c : i < (l.length : Int)
    · rw [if_pos c]
      simp only [zoetropelaw10_UartOrder.j1]
      rw [if_pos trivial, if_pos h0, if_pos c]
      by_cases b : Go.bits .and .i64 (rd l i) 256 = 0
      · rw [if_pos b]
        by_cases f : n.size < 16
        · rw [or_feed n o on _ f]
          simp only [Option.bind_some, hw]
          have h16 : decide (((inL n).length : Int) < 16) = true := by rw [hlen]; simp; omega
          have hx : (Go.bits .and .i64 (rd l i) 255) % 4294967296 = rd l i % 256 := by rw [and255]; omega
          have hlim : (inL n).length < 35184372088832 := by omega
          have happ := or_app n (rd l i % 256) (by omega)
          rw [h16, if_neg (by decide), if_pos trivial, if_pos hlim, hx, ← happ]
          have hsz : (n ++ strOfNums [rd l i % 256]).size ≤ 16 := by
            have h1 : (strOfNums [rd l i % 256]).size = 1 := strOfNums_size _
            rw [ByteArray.size_append, h1]; omega
          exact ih (i + 1) (n ++ strOfNums [rd l i % 256]) o on (by omega) (by omega) (by omega) hsz (k + 3) (by omega)
        · rw [or_feed_full n o on _ (by omega)]
          simp only [Option.bind_some, hw]
          have h16 : decide (((inL n).length : Int) < 16) = false := by rw [hlen]; simp; omega
          rw [h16, if_neg (by decide), if_neg (by decide)]
          exact ih (i + 1) n o on (by omega) (by omega) (by omega) hz (k + 3) (by omega)
      · rw [if_neg b]
        have tail : ∀ (m : ByteArray) (v : Int), m.size ≤ 16 → zoetropelaw10_UartOrder.j2 (k + 3) l (inL m) i v 0 v m o on = some true := by
          intro m v hm
          have hi := ih (i + 1) m o on (by omega) (by omega) (by omega) hm (k + 1) (by omega)
          rw [or_j2, or_j3 (k + 1) l i m o on (by omega) hw]
          exact hi
        by_cases e : 0 < n.size
        · rw [or_read1 n o on e]
          simp only [Option.bind_some]
          rw [if_pos (by omega), if_pos (by omega), if_pos (by omega)]
          rw [if_pos (by simp; omega)]
          have := tail (n.extract 1 n.size) (bt n 0 % 4294967296) (by simp; omega)
          rw [or_rest] at this
          rw [← or_first n]
          exact this
        · rw [or_read0 n o on (by omega)]
          simp only [Option.bind_some]
          rw [if_neg (by omega)]
          exact tail n 0 hz
    · rw [if_neg c]
      simp only [zoetropelaw10_UartOrder.j1, Bool.false_eq_true, if_false, or_fixed, Option.bind_some]
theorem UartOrder : zoetropelaw10_UartOrder.Pure := by
  intro l _ _ _
  refine ⟨1100, ?_⟩
  unfold zoetropelaw10_UartOrder.f
  have h := or_loop l 200 0 ⟨#[]⟩ ⟨#[]⟩ false (by omega) (by omega) (by omega) (by decide) 1100 (by omega)
  have hnil : inL ⟨#[]⟩ = [] := rfl
  rw [hnil] at h
  exact h
end Go.Proofs.Ytbkonaalbahojaa.Pure
