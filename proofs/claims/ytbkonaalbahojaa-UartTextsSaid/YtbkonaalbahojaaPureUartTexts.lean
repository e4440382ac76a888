/- The bytes of any uart are parsed as it was; all is as the reference has it. -/
import Derived.Test.YtbkonaalbahojaaXx13
import Derived.Test.YtbkonaalbahojaaExtRefParse10
namespace Go.Proofs.Ytbkonaalbahojaa.Pure
open Go.RowKit Go.Proofs.Ytbkonaalbahojaa.X Go.Proofs.Ytbkonaalbahojaa.Ext Go.Proofs.YtbkonaalbahojaaW.PrintWords Go.Proofs.YtbkonaalbahojaaW.PrintLast

theorem tx_bound (i o : ByteArray) (on : Bool) : ∃ i' o', zoetropelaw10_bound.f i o on = some (i', o', on) ∧ i'.size ≤ 16 ∧ o'.size ≤ 64 := by
  unfold zoetropelaw10_bound.f mn
  by_cases c1 : 16 < (i.size : Int) <;> by_cases c2 : 64 < (o.size : Int) <;> simp only [c1, c2, if_true, if_false]
  · refine ⟨_, _, by rw [if_pos (by omega), if_pos (by omega), if_pos (by omega), if_pos (by omega)], ?_, ?_⟩ <;> simp <;> omega
  · refine ⟨_, _, by rw [if_pos (by omega), if_pos (by omega), if_pos (by omega), if_pos (by omega)], ?_, ?_⟩ <;> simp <;> omega
  · refine ⟨_, _, by rw [if_pos (by omega), if_pos (by omega), if_pos (by omega), if_pos (by omega)], ?_, ?_⟩ <;> simp <;> omega
  · refine ⟨_, _, by rw [if_pos (by omega), if_pos (by omega), if_pos (by omega), if_pos (by omega)], ?_, ?_⟩ <;> simp <;> omega
/-- What is laid is parsed as it was. -/
theorem tx_back (i o : ByteArray) (on : Bool) (hi : i.size ≤ 16) (ho : o.size ≤ 64) (x : ByteArray) (hx : uart_Text.f i o on = some x) : uart_Parse.f x = some (i, o, on, 0) := by
  have hd := text_data hx
  have hz : x.size = 3 + i.size + o.size := by
    rw [Bs.size, hd, Bs.size i, Bs.size o]; simp [textL]; omega
  have b0 : bt x 0 = if on = true then 1 else 0 := by
    rw [Bs.bt_eq, hd]; cases on <;> rfl
  have b1 : bt x 1 = i.size := by
    rw [Bs.bt_eq, hd]
    show (((UInt8.ofNat i.size)).toNat : Int) = _
    simp only [UInt8.toNat_ofNat']; omega
  have b2 : bt x (2 + i.size) = o.size := by
    rw [Bs.bt_eq, hd, show ((2 : Int) + i.size).toNat = i.size + 2 from by omega]
    unfold textL
    simp only [List.getD_cons_succ]
    rw [List.getD_eq_getElem?_getD, List.getElem?_append_right (by rw [Bs.size]; omega)]
    rw [show i.size - i.data.toList.length = 0 from by rw [Bs.size]; omega]
    simp only [List.getElem?_cons_zero, Option.getD_some, UInt8.toNat_ofNat']; omega
  have hm : Match x i.size := ⟨by omega, hi, by omega, by rw [b0]; split <;> omega, b1, by rw [b2]; omega⟩
  rw [parse_match x i.size hm]
  have e1 : x.extract 2 (2 + i.size) = i := by
    apply Bs.inj
    rw [Bs.ext, hd]
    unfold textL
    simp only [List.drop_succ_cons, List.drop_zero]
    rw [show 2 + i.size - 2 = i.data.toList.length from by rw [Bs.size]; omega, List.take_left]
  have e2 : x.extract (3 + i.size) x.size = o := by
    apply Bs.inj
    rw [Bs.from_, hd]
    unfold textL
    have hk : 3 + i.size = (i.data.toList.length + 1) + 2 := by rw [Bs.size]; omega
    rw [hk]
    show List.drop (i.data.toList.length + 1) (i.data.toList ++ UInt8.ofNat o.size :: o.data.toList) = o.data.toList
    rw [List.drop_append]
    simp
  have e3 : (bt x 0 == 1) = on := by rw [b0]; cases on <;> rfl
  rw [e1, e2, e3]
theorem UartTexts (a0_0 : ByteArray) (a0_1 : ByteArray) (a0_2 : Bool) (a1 : ByteArray) (w0_0 : a0_0.size ≤ maxLen) (w0_1 : a0_1.size ≤ maxLen) (w1 : a1.size ≤ 140737488351232) : X.zoetropelaw10_UartTexts.f a0_0 a0_1 a0_2 a1 = some true := by
  have ef : zoetropelaw10_fixed.f = some true := by decide +kernel
  unfold maxLen at w0_0 w0_1
  obtain ⟨i, o, hb, hi, ho⟩ := tx_bound a0_0 a0_1 a0_2
  obtain ⟨r, e1⟩ : ∃ r, uart_Parse.f a1 = some r := by
    unfold uart_Parse.f; (repeat' split) <;> exact ⟨_, rfl⟩
  have e2 : zoetroperef10_Parse.f a1 = some r := by unfold zoetroperef10_Parse.f; rw [if_pos w1]; exact e1
  obtain ⟨x, e3⟩ := text_some i o a0_2 (by omega) (by omega)
  obtain ⟨y, e4⟩ := ref_text_some i o a0_2 (by omega) (by omega)
  have e5 := tx_back i o a0_2 hi ho x e3
  unfold zoetropelaw10_UartTexts.f
  rw [if_pos (by omega), hb]
  simp only [Option.bind_some, e1, e2, e3, e4, e5, ef]
  simp
end Go.Proofs.Ytbkonaalbahojaa.Pure
