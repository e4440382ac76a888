/- The reference's uart answers as the program's does: registers and bytes that come in. -/
import Derived.Test.YtbkonaalbahojaaXx2
import Derived.Test.YtbkonaalbahojaaXx3
import Derived.Test.YtbkonaalbahojaaXx4
import Derived.Test.YtbkonaalbahojaaXx3
import Derived.Test.YtbkonaalbahojaaXx4
import Derived.Test.YtbkonaalbahojaaXx4
import Derived.Test.YtbkonaalbahojaaBs
import Derived.Laws.BitsAllLaws
namespace Go.Proofs.Ytbkonaalbahojaa.Ext
open Go.RowKit Go.Proofs.YtbkonaalbahojaaW.PrintWords Go.Proofs.Ytbkonaalbahojaa.X

theorem ofNat_congr {a b : Int} (h : a % 256 = b % 256) (ha : 0 ≤ a) (hb : 0 ≤ b) : UInt8.ofNat a.toNat = UInt8.ofNat b.toNat := by
  apply UInt8.toNat_inj.1
  simp only [UInt8.toNat_ofNat']
  omega
theorem tmod_range (a m : Int) (ha : 0 ≤ a) : Int.tmod a m = a % m := Int.tmod_eq_emod_of_nonneg ha
theorem wrap64_in {n : Int} (h0 : 0 ≤ n) (h1 : n < 9223372036854775808) : wrap64 n = n := by unfold wrap64; omega

theorem toList_nil_iff (s : ByteArray) : s.toList = ([] : List UInt8) ↔ ¬ ((s.size : Int) > 0) := by
  rw [Bs.toList, Bs.size]
  exact ⟨fun h => by rw [h]; simp, fun h => List.eq_nil_of_length_eq_zero (by omega)⟩

theorem twin_zoetroperef10_Read.same {i o : ByteArray} {on : Bool} {reg : Int} {k : Nat} {r q : Int × ByteArray × ByteArray × Bool × Int}
    (h : uart_Read.f i o on reg = some r) (h' : zoetroperef10_Read.f k i o on reg = some q) : r = q := by
  cases k with
  | zero => unfold zoetroperef10_Read.f at h'; simp [zoetroperef10_Read.j0] at h'
  | succ k =>
    unfold zoetroperef10_Read.f at h'
    unfold uart_Read.f at h
    simp only [zoetroperef10_Read.j0] at h'
    have hn := toList_nil_iff i
    by_cases c : reg = 0
    · rw [if_pos c] at h h'
      by_cases c2 : (i.size : Int) > 0
      · have c3 : ¬ i.toList = ([] : List UInt8) := fun e => (hn.1 e) c2
        rw [if_neg c3, if_pos (by omega), if_pos (by omega)] at h
        rw [if_pos (by simpa using c2), if_pos (by omega), if_pos (by omega)] at h'
        rw [h] at h'; exact Option.some.inj h'
      · rw [if_pos (hn.2 c2)] at h
        rw [if_neg (by simpa using c2), if_pos c] at h'
        rw [h] at h'; exact Option.some.inj h'
    · rw [if_neg c] at h h'
      rw [if_neg (by simp), if_neg c] at h'
      have e : (o.size : Int) % 256 = (o.size : Int) % 256 := rfl
      rw [h] at h'; exact Option.some.inj h'

theorem strs_one (v : Int) (h0 : 0 ≤ v) (h1 : v < 9223372036854775808) : strOfNums [Int.tmod (wrap64 v) 256 % 256] = strOfNums [v % 256] := by
  rw [wrap64_in h0 h1, tmod_range v 256 h0]
  simp

theorem twin_zoetroperef10_Write.same {i o : ByteArray} {on : Bool} {reg v : Int} {r q : ByteArray × ByteArray × Bool × Int}
    (h : uart_Write.f i o on reg v = some r) (h' : zoetroperef10_Write.f i o on reg v = some q) (hv : 0 ≤ v ∧ v < 4294967296) : r = q := by
  unfold zoetroperef10_Write.f at h'
  unfold uart_Write.f at h
  unfold zoetroperef10_one.f at h'
  rw [strs_one v hv.1 (by omega)] at h'
  have hb : Go.bits .and .u32 v 1 = Int.tmod (wrap64 v) 2 := by
    rw [wrap64_in hv.1 (by omega), tmod_range v 2 hv.1, u32_and v 1 hv.1 hv.2 (by omega) (by omega)]
    have : v.toNat &&& Int.toNat 1 = v.toNat % 2 := Nat.and_one_is_mod _
    rw [this]; omega
  simp only [Option.bind_some] at h h'
  rw [hb] at h
  rw [h] at h'; exact Option.some.inj h'

theorem twin_zoetroperef10_Feed.same {i o : ByteArray} {on : Bool} {c : Int} {r q : ByteArray × ByteArray × Bool × Bool}
    (h : uart_Feed.f i o on c = some r) (h' : zoetroperef10_Feed.f i o on c = some q) (hv : 0 ≤ c ∧ c < 256) : r = q := by
  unfold zoetroperef10_Feed.f at h'
  unfold uart_Feed.f at h
  unfold zoetroperef10_one.f at h'
  rw [strs_one c hv.1 (by omega), Int.emod_eq_of_lt hv.1 (by omega)] at h'
  simp only [Option.bind_some] at h h'
  rw [h] at h'; exact Option.some.inj h'
end Go.Proofs.Ytbkonaalbahojaa.Ext
