/- A timer's bytes: the reference lays and parses them as the program does. -/
import Derived.Test.YtjdoabeaoeihhaaXx3
import Derived.Test.YtjdoabeaoeihhaaXx6
import Derived.Test.YtjdoabeaoeihhaaXx7
import Derived.Test.YtjdoabeaoeihhaaExtTimerParse
import Derived.Test.YtjdoabeaoeihhaaBs
namespace Go.Proofs.Ytjdoabeaoeihhaa.Ext
open Go.RowKit Go.Proofs.YtjdoabeaoeihhaaW.PrintWords Go.Proofs.Ytjdoabeaoeihhaa.X

theorem rounds_same {α : Type} {g : Nat → Option α} (hm : ∀ k, LeO (g k) (g (k + 1))) {K k : Nat} {a b : α} (h : g K = some a) (h' : g k = some b) : a = b :=
  Option.some.inj ((at_rounds hm (Nat.le_max_left K k) h).symm.trans (at_rounds hm (Nat.le_max_right K k) h'))

/-- The four bytes of a number. -/
def four (a : Int) : List Int := [a / 16777216 % 256, a / 65536 % 256, a / 256 % 256, a % 256]
def bitN (r : Bool) : Int := if r = true then 1 else 0
theorem strs_app (a b : List Int) : strOfNums a ++ strOfNums b = strOfNums (a ++ b) := by
  apply Bs.inj; rw [Bs.app, Bs.nums, Bs.nums, Bs.nums, List.map_append]
theorem text_at (e l : Int) (r : Bool) : timer_Text.f 3 e l r = some (strOfNums (four e ++ four l ++ [bitN r])) := by
  unfold timer_Text.f
  simp only [Option.bind_some, timer_Text.l0, timer_bit.f, List.length_cons, List.length_nil]
  cases r <;> simp [wrap64, rd, four, bitN]
theorem word_eq (a : Int) (h : 0 ≤ a ∧ a ≤ 4294967295) : zoetroperef09_Word.f a = some (strOfNums (four a)) := by
  unfold zoetroperef09_Word.f four
  have hw : wrap64 a = a := by unfold wrap64; omega
  have h1 : ∀ m : Int, 0 < m → m ≤ 16777216 → wrap64 (Int.tdiv a m) = a / m := by
    intro m hm hm2
    rw [Int.tdiv_eq_ediv_of_nonneg h.1]
    have : 0 ≤ a / m := Int.ediv_nonneg h.1 (by omega)
    have : a / m ≤ a := Int.ediv_le_self _ h.1
    unfold wrap64; omega
  have h2 : ∀ x : Int, 0 ≤ x → Int.tmod x 256 % 256 = x % 256 := fun x hx => by rw [Int.tmod_eq_emod_of_nonneg hx]; omega
  rw [hw, h1 _ (by omega) (by omega), h1 _ (by omega) (by omega), h1 _ (by omega) (by omega), h2 _ (by omega), h2 _ (by omega), h2 _ (by omega)]
theorem ref_text (e l : Int) (r : Bool) (he : 0 ≤ e ∧ e ≤ 4294967295) (hl : 0 ≤ l ∧ l ≤ 4294967295) : zoetroperef09_Text.f e l r = some (strOfNums (four e ++ four l ++ [bitN r])) := by
  unfold zoetroperef09_Text.f
  rw [word_eq e he, word_eq l hl]
  have hb : zoetroperef09_Bit.f r = some (bitN r) := by cases r <;> rfl
  have hs : (strOfNums (four e)).size = 4 := strOfNums_size _
  have hs2 : (strOfNums (four l)).size = 4 := strOfNums_size _
  have hm : bitN r % 256 = bitN r := by cases r <;> rfl
  simp only [Option.bind_some, hb, hs, hs2, hm]
  rw [if_pos (by omega), strs_app, if_pos (by rw [strOfNums_size, strOfNums_size]; simp [four]), strs_app]
theorem twin_zoetroperef09_Text.same {k : Nat} {e l : Int} {r : Bool} {x y : ByteArray} (h : timer_Text.f k e l r = some x) (h' : zoetroperef09_Text.f e l r = some y) (hr : (0 ≤ e ∧ e ≤ 4294967295) ∧ (0 ≤ l ∧ l ≤ 4294967295)) : x = y := by
  have h1 := rounds_same (g := fun k => timer_Text.f k e l r) (timer_Text.mono e l r) (text_at e l r) h
  rw [ref_text e l r hr.1 hr.2] at h'
  rw [← h1]; exact Option.some.inj h'

theorem nine (s : ByteArray) (h : s.size = 9) : ∃ b0 b1 b2 b3 b4 b5 b6 b7 b8 : UInt8, s.data.toList = [b0, b1, b2, b3, b4, b5, b6, b7, b8] := by
  rw [Bs.size] at h
  match s.data.toList, h with
  | [b0, b1, b2, b3, b4, b5, b6, b7, b8], _ => exact ⟨b0, b1, b2, b3, b4, b5, b6, b7, b8, rfl⟩
theorem word_of (s : ByteArray) (a : Nat) (l : List UInt8) (hl : s.data.toList = l) :
    word s a 4 = (((((l.getD a 0).toNat : Int)) * 256 + ((l.getD (a + 1) 0).toNat : Int)) * 256 + ((l.getD (a + 2) 0).toNat : Int)) * 256 + ((l.getD (a + 3) 0).toNat : Int) := by
  simp only [word, Bs.bt_eq, hl, Int.zero_mul, Int.zero_add]
  have e0 : ((a : Int) + ((0 : Nat) : Int)).toNat = a := by omega
  have e1 : ((a : Int) + ((1 : Nat) : Int)).toNat = a + 1 := by omega
  have e2 : ((a : Int) + ((2 : Nat) : Int)).toNat = a + 2 := by omega
  have e3 : ((a : Int) + ((3 : Nat) : Int)).toNat = a + 3 := by omega
  simp only [e0, e1, e2, e3]
theorem val_at (s : ByteArray) (h : s.size = 4) : zoetroperef09_Val.f 5 s = some (word s (0 : Nat) 4) := by
  have r0 := bt_range s 0
  have r1 := bt_range s 1
  have r2 := bt_range s 2
  have r3 := bt_range s 3
  unfold zoetroperef09_Val.f
  simp only [zoetroperef09_Val.l0, h]
  have w0 : wrap64 (0 + 1) = 1 := by unfold wrap64; omega
  have w1 : wrap64 (1 + 1) = 2 := by unfold wrap64; omega
  have w2 : wrap64 (2 + 1) = 3 := by unfold wrap64; omega
  have w3 : wrap64 (3 + 1) = 4 := by unfold wrap64; omega
  rw [w0, w1, w2, w3]
  have c0 : wrap64 (wrap64 (256 * 0) + wrap64 (bt s 0)) = bt s 0 := by unfold wrap64; omega
  rw [c0]
  have c1 : wrap64 (wrap64 (256 * bt s 0) + wrap64 (bt s 1)) = bt s 0 * 256 + bt s 1 := by unfold wrap64; omega
  rw [c1]
  have c2 : wrap64 (wrap64 (256 * (bt s 0 * 256 + bt s 1)) + wrap64 (bt s 2)) = (bt s 0 * 256 + bt s 1) * 256 + bt s 2 := by unfold wrap64; omega
  rw [c2]
  have c3 : wrap64 (wrap64 (256 * ((bt s 0 * 256 + bt s 1) * 256 + bt s 2)) + wrap64 (bt s 3)) = ((bt s 0 * 256 + bt s 1) * 256 + bt s 2) * 256 + bt s 3 := by unfold wrap64; omega
  rw [c3]
  have hw : word s (0 : Nat) 4 = ((bt s 0 * 256 + bt s 1) * 256 + bt s 2) * 256 + bt s 3 := by
    simp [word]
  rw [hw]
  rw [if_pos (by omega), if_pos (by omega), if_pos (by omega), if_pos (by omega), if_pos (by omega), if_pos (by omega), if_pos (by omega), if_pos (by omega), if_neg (by omega)]
  congr 1; omega
theorem ext_four (s : ByteArray) (a : Nat) (h : a + 4 ≤ s.size) : (s.extract a (a + 4)).size = 4 ∧ word (s.extract a (a + 4)) (0 : Nat) 4 = word s (a : Nat) 4 := by
  have hs : (s.extract a (a + 4)).size = 4 := by simp; omega
  refine ⟨hs, ?_⟩
  rw [word_of _ 0 _ rfl, word_of s a _ rfl, Bs.ext, show a + 4 - a = 4 from by omega]
  have g : ∀ j, j < 4 → ((s.data.toList.drop a).take 4).getD j 0 = s.data.toList.getD (a + j) 0 := by
    intro j hj
    simp only [List.getD_eq_getElem?_getD, List.getElem?_take, hj, if_true, List.getElem?_drop]
  rw [g 0 (by omega), g (0 + 1) (by omega), g (0 + 2) (by omega), g (0 + 3) (by omega)]
  simp
theorem b_lt (b : UInt8) : (b.toNat : Int) < 256 := by have := b.toNat_lt; omega
theorem four_of (b0 b1 b2 b3 : UInt8) : (four ((((b0.toNat : Int) * 256 + (b1.toNat : Int)) * 256 + (b2.toNat : Int)) * 256 + (b3.toNat : Int))).map (fun n => UInt8.ofNat n.toNat) = [b0, b1, b2, b3] := by
  have h0 := b_lt b0
  have h1 := b_lt b1
  have h2 := b_lt b2
  have h3 := b_lt b3
  have z : ∀ (n : Int) (b : UInt8), n = (b.toNat : Int) → UInt8.ofNat n.toNat = b := by
    intro n b h; rw [h, Int.toNat_natCast]; simp
  unfold four
  simp only [List.map_cons, List.map_nil]
  rw [z _ b0 (by omega), z _ b1 (by omega), z _ b2 (by omega), z _ b3 (by omega)]
/-- The bytes of the numbers of nine bytes are these bytes, if the last is 0 or 1. -/
theorem back (s : ByteArray) (h : s.size = 9) : (strOfNums (four (word s (0 : Nat) 4) ++ four (word s (4 : Nat) 4) ++ [bitN (bt s 8 == 1)])).toList = s.toList ↔ bt s 8 ≤ 1 := by
  obtain ⟨b0, b1, b2, b3, b4, b5, b6, b7, b8, hl⟩ := nine s h
  have h8 : bt s 8 = (b8.toNat : Int) := by rw [Bs.bt_eq, hl]; rfl
  rw [Bs.toList, Bs.toList, Bs.nums, hl, word_of s 0 _ hl, word_of s 4 _ hl, h8]
  simp only [List.map_append, List.getD_cons_zero, List.getD_cons_succ, Nat.reduceAdd]
  rw [four_of, four_of]
  simp only [List.map_cons, List.map_nil, List.cons_append, List.nil_append, List.cons.injEq, and_true, true_and]
  unfold bitN
  by_cases c : (b8.toNat : Int) = 1
  · rw [c]
    have : b8 = 1 := by apply UInt8.toNat_inj.1; simp; omega
    simp [this]
  · have e : ((b8.toNat : Int) == 1) = false := by simpa using c
    rw [e]
    simp
    constructor
    · intro h; rw [← h]; decide
    · intro h
      apply UInt8.toNat_inj.1; simp
      omega
theorem word_bounds (s : ByteArray) (a : Int) : 0 ≤ word s a 4 ∧ word s a 4 ≤ 4294967295 := by
  have := word_range s a 4 (by omega)
  omega
theorem ref_parse (s : ByteArray) : zoetroperef09_Parse.f 5 s = timer_Parse.f s := by
  unfold zoetroperef09_Parse.f timer_Parse.f
  by_cases c : (s.size : Int) = 9
  · have c' : s.size = 9 := by omega
    have x0 := ext_four s 0 (by omega)
    have x4 := ext_four s 4 (by omega)
    rw [if_pos c, if_pos (by omega), val_at _ x0.1, x0.2]
    simp only [Option.bind_some]
    rw [if_pos (by omega), val_at _ x4.1, x4.2]
    simp only [Option.bind_some]
    rw [if_pos (by omega), ref_text _ _ _ (word_bounds s _) (word_bounds s _)]
    simp only [Option.bind_some]
    have hb := back s c'
    by_cases d : bt s 8 ≤ 1
    · rw [if_pos (hb.2 d), if_pos ⟨c', d⟩]; rfl
    · rw [if_neg (fun h => d (hb.1 h)), if_neg (fun h => d h.2)]
  · rw [if_neg c, if_neg (fun h => c (by omega))]
theorem twin_zoetroperef09_Parse.same {k : Nat} {s : ByteArray} {x y : Int × Int × Bool × Int} (h : timer_Parse.f s = some x) (h' : zoetroperef09_Parse.f k s = some y) : x = y :=
  rounds_same (g := fun k => zoetroperef09_Parse.f k s) (zoetroperef09_Parse.mono s) ((ref_parse s).trans h) h'
end Go.Proofs.Ytjdoabeaoeihhaa.Ext
