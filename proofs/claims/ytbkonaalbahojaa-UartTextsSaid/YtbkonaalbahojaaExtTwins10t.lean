/- A uart's bytes: the reference lays and parses them as the program does. -/
import Derived.Test.YtbkonaalbahojaaXx12
import Derived.Test.YtbkonaalbahojaaXx12
import Derived.Test.YtbkonaalbahojaaExtUartParse
import Derived.Test.YtbkonaalbahojaaBs
namespace Go.Proofs.Ytbkonaalbahojaa.Ext
open Go.RowKit Go.Proofs.YtbkonaalbahojaaW.PrintWords Go.Proofs.Ytbkonaalbahojaa.X

theorem rounds_same {α : Type} {g : Nat → Option α} (hm : ∀ k, LeO (g k) (g (k + 1))) {K k : Nat} {a b : α} (h : g K = some a) (h' : g k = some b) : a = b :=
  Option.some.inj ((at_rounds hm (Nat.le_max_left K k) h).symm.trans (at_rounds hm (Nat.le_max_right K k) h'))
/-- The bytes of a uart. -/
def textL (i o : ByteArray) (on : Bool) : List UInt8 := (if on = true then 1 else 0) :: UInt8.ofNat i.size :: (i.data.toList ++ UInt8.ofNat o.size :: o.data.toList)
theorem of_size (n : Nat) : UInt8.ofNat ((((n : Nat) : Int) % 256).toNat) = UInt8.ofNat n := by
  have : (((n : Nat) : Int) % 256).toNat = n % 256 := by omega
  rw [this, Bs.ofNat_mod]
theorem of_tmod (n : Nat) : UInt8.ofNat ((Int.tmod ((n : Nat) : Int) 256 % 256).toNat) = UInt8.ofNat n := by
  rw [Int.tmod_eq_emod_of_nonneg (by omega)]
  have : (((n : Nat) : Int) % 256 % 256).toNat = n % 256 := by omega
  rw [this, Bs.ofNat_mod]
theorem text_data {i o : ByteArray} {on : Bool} {x : ByteArray} (h : uart_Text.f i o on = some x) : x.data.toList = textL i o on := by
  unfold uart_Text.f at h
  simp only [Option.bind_some] at h
  cases on
  · rw [if_neg (by decide)] at h
    split at h
    · split at h
      · split at h
        · cases h
          simp only [Bs.app, Bs.nums, List.map_cons, List.map_nil, of_size, textL]
          simp
        · cases h
      · cases h
    · cases h
  · rw [if_pos rfl] at h
    split at h
    · split at h
      · split at h
        · cases h
          simp only [Bs.app, Bs.nums, List.map_cons, List.map_nil, of_size, textL]
          simp
        · cases h
      · cases h
    · cases h
theorem ref_data {i o : ByteArray} {on : Bool} {x : ByteArray} (h : zoetroperef10_Text.f i o on = some x) : x.data.toList = textL i o on := by
  unfold zoetroperef10_Text.f zoetroperef10_one.f at h
  simp only [Option.bind_some] at h
  cases on
  · rw [if_neg (by decide)] at h
    split at h
    · split at h
      · split at h
        · split at h
          · cases h
            simp only [Bs.app, Bs.nums, List.map_cons, List.map_nil, of_tmod, textL]
            simp
          · cases h
        · cases h
      · cases h
    · cases h
  · rw [if_pos rfl] at h
    split at h
    · split at h
      · split at h
        · split at h
          · cases h
            simp only [Bs.app, Bs.nums, List.map_cons, List.map_nil, of_tmod, textL]
            simp
          · cases h
        · cases h
      · cases h
    · cases h
theorem twin_zoetroperef10_Text.same {i o : ByteArray} {on : Bool} {x y : ByteArray} (h : uart_Text.f i o on = some x) (h' : zoetroperef10_Text.f i o on = some y) : x = y :=
  Bs.inj ((text_data h).trans (ref_data h').symm)
theorem ref_text_some (i o : ByteArray) (on : Bool) (hi : i.size ≤ 100) (ho : o.size ≤ 100) : ∃ x, zoetroperef10_Text.f i o on = some x := by
  have e1 : ∀ n : Int, (strOfNums [n]).size = 1 := fun n => strOfNums_size _
  have l1 : (⟨#[1]⟩ : ByteArray).size = 1 := rfl
  have l0 : (⟨#[0]⟩ : ByteArray).size = 1 := rfl
  unfold zoetroperef10_Text.f zoetroperef10_one.f
  simp only [Option.bind_some, ByteArray.size_append, e1, l1, l0]
  split
  · rw [if_pos (by omega), if_pos (by omega), if_pos (by omega), if_pos (by omega)]; exact ⟨_, rfl⟩
  · rw [if_pos (by omega), if_pos (by omega), if_pos (by omega), if_pos (by omega)]; exact ⟨_, rfl⟩
theorem text_some (i o : ByteArray) (on : Bool) (hi : i.size ≤ 100) (ho : o.size ≤ 100) : ∃ x, uart_Text.f i o on = some x := by
  have e1 : ∀ n : Int, (strOfNums [n]).size = 1 := fun n => strOfNums_size _
  have e2 : ∀ n m : Int, (strOfNums [n, m]).size = 2 := fun n m => strOfNums_size _
  unfold uart_Text.f
  simp only [Option.bind_some, ByteArray.size_append, e1, e2]
  split
  · rw [if_pos (by omega), if_pos (by omega), if_pos (by omega)]; exact ⟨_, rfl⟩
  · rw [if_pos (by omega), if_pos (by omega), if_pos (by omega)]; exact ⟨_, rfl⟩

/-- Bytes, cut at a count of bytes that came in. -/
theorem cut_at (s : ByteArray) (n : Nat) (h : 3 + n ≤ s.size) : ∃ (b0 b1 c : UInt8) (m r : List UInt8), s.data.toList = b0 :: b1 :: (m ++ c :: r) ∧ m.length = n ∧ r.length = s.size - 3 - n ∧
    bt s 0 = (b0.toNat : Int) ∧ bt s 1 = (b1.toNat : Int) ∧ bt s (2 + n) = (c.toNat : Int) ∧ (s.extract 2 (2 + n)).data.toList = m ∧ (s.extract (3 + n) s.size).data.toList = r := by
  have hz := Bs.size s
  obtain ⟨l, hl⟩ : ∃ l, s.data.toList = l := ⟨_, rfl⟩
  rw [hl] at hz
  match l, hl, hz with
  | [], _, hz => have : s.size = 0 := hz; omega
  | [_], _, hz => have : s.size = 1 := hz; omega
  | b0 :: b1 :: t, hl, hz =>
    have ht : s.size = t.length + 2 := by rw [hz]; rfl
    clear hz
    have hd : t.drop n = t[n]'(by omega) :: t.drop (n + 1) := List.drop_eq_getElem_cons (by omega)
    refine ⟨b0, b1, t[n]'(by omega), t.take n, t.drop (n + 1), ?_, by simp; omega, by simp; omega, ?_, ?_, ?_, ?_, ?_⟩
    · rw [← hd, List.take_append_drop]; exact hl
    · rw [Bs.bt_eq, hl]; rfl
    · rw [Bs.bt_eq, hl]; rfl
    · rw [Bs.bt_eq, hl, show ((2 : Int) + n).toNat = n + 2 from by omega]
      simp only [List.getD_eq_getElem?_getD, List.getElem?_cons_succ]
      rw [List.getElem?_eq_getElem (show n < t.length by omega)]; rfl
    · rw [Bs.ext, hl, show 2 + n - 2 = n from by omega]; rfl
    · rw [Bs.from_, hl, show 3 + n = n + 1 + 2 from by omega]; rfl
theorem text_match (s : ByteArray) (n : Nat) (h : 3 + n ≤ s.size) (hn : n ≤ 16) (hr : s.size - 3 - n ≤ 64) :
    textL (s.extract 2 (2 + n)) (s.extract (3 + n) s.size) (bt s 0 == 1) = s.data.toList ↔ bt s 0 ≤ 1 ∧ bt s 1 = n ∧ bt s (2 + n) = (s.size : Int) - 3 - n := by
  obtain ⟨b0, b1, c, m, r, hl, hm, hrl, h0, h1, h2, hi, ho⟩ := cut_at s n h
  have zi : (s.extract 2 (2 + n)).size = n := by rw [Bs.size, hi, hm]
  have zo : (s.extract (3 + n) s.size).size = s.size - 3 - n := by rw [Bs.size, ho, hrl]
  unfold textL
  rw [zi, zo, hi, ho, hl, h0, h1, h2]
  have l0 := b0.toNat_lt
  have l1 := b1.toNat_lt
  have l2 := c.toNat_lt
  simp only [List.cons.injEq, List.append_cancel_left_eq, and_true]
  have k1 : UInt8.ofNat n = b1 ↔ (b1.toNat : Int) = n := by
    constructor
    · intro e; rw [← e]; simp only [UInt8.toNat_ofNat']; omega
    · intro e; apply UInt8.toNat_inj.1; simp only [UInt8.toNat_ofNat']; omega
  have k2 : UInt8.ofNat (s.size - 3 - n) = c ↔ (c.toNat : Int) = (s.size : Int) - 3 - n := by
    constructor
    · intro e; rw [← e]; simp only [UInt8.toNat_ofNat']; omega
    · intro e; apply UInt8.toNat_inj.1; simp only [UInt8.toNat_ofNat']; omega
  have k0 : ((if ((b0.toNat : Int) == 1) = true then (1 : UInt8) else 0) = b0) ↔ (b0.toNat : Int) ≤ 1 := by
    by_cases e : (b0.toNat : Int) = 1
    · have : b0 = 1 := by apply UInt8.toNat_inj.1; simp; omega
      simp [this]
    · rw [if_neg (by simpa using e)]
      constructor
      · intro h; rw [← h]; decide
      · intro h; apply UInt8.toNat_inj.1; simp; omega
  rw [k0, k1, k2]
end Go.Proofs.Ytbkonaalbahojaa.Ext
