/- Small laws on byte strings as lists of bytes. -/
import Derived.Test.YtbkonaalbahojaaWWords
import Derived.Lib.Strings
import Derived.Lib.SmallJoins
namespace Go.Proofs.Ytbkonaalbahojaa.Bs
open Go.RowKit Go.Proofs.YtbkonaalbahojaaW.PrintWords

theorem size (s : ByteArray) : s.size = s.data.toList.length := Lib.size_eq s
theorem inj {s t : ByteArray} (h : s.data.toList = t.data.toList) : s = t := by
  obtain ⟨⟨l⟩⟩ := s; obtain ⟨⟨m⟩⟩ := t; simp at h; rw [h]
theorem app (s t : ByteArray) : (s ++ t).data.toList = s.data.toList ++ t.data.toList := Joins.data_append s t
theorem ext (s : ByteArray) (a b : Nat) : (s.extract a b).data.toList = (s.data.toList.drop a).take (b - a) := Lib.extract_data s a b
theorem toList (s : ByteArray) : s.toList = s.data.toList := Lib.toList_data s
theorem nil : (⟨#[]⟩ : ByteArray).data.toList = [] := rfl
theorem nums (l : List Int) : (strOfNums l).data.toList = l.map fun n => UInt8.ofNat n.toNat := strOfNums_data l
theorem bt_eq (s : ByteArray) (i : Int) : bt s i = ((s.data.toList.getD i.toNat 0).toNat : Int) := by
  unfold bt
  split
  · rename_i h
    rw [List.getD_eq_getElem?_getD, List.getElem?_eq_getElem (by rw [← size]; exact h)]; rfl
  · rename_i h
    rw [List.getD_eq_getElem?_getD, List.getElem?_eq_none (by rw [← size]; omega)]; rfl
theorem ofNat_mod (n : Nat) : UInt8.ofNat (n % 256) = UInt8.ofNat n := by
  apply UInt8.toNat_inj.1; simp
theorem ofNat_toNat (b : UInt8) : UInt8.ofNat b.toNat = b := by simp
theorem from_ (s : ByteArray) (a : Nat) : (s.extract a s.size).data.toList = s.data.toList.drop a := by
  rw [ext]; exact List.take_of_length_le (by rw [List.length_drop, ← size]; omega)
end Go.Proofs.Ytbkonaalbahojaa.Bs
