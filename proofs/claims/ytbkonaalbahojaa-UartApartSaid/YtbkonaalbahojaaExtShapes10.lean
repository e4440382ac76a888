/- What single calls of the uart leave as it was. -/
import Derived.Test.YtbkonaalbahojaaXx2
import Derived.Test.YtbkonaalbahojaaXx3
import Derived.Test.YtbkonaalbahojaaXx4
namespace Go.Proofs.Ytbkonaalbahojaa.Ext
open Go.RowKit Go.Proofs.YtbkonaalbahojaaW.PrintWords Go.Proofs.Ytbkonaalbahojaa.X

theorem shape_uart_Write0.same {i o : ByteArray} {on : Bool} {v : Int} {r1 r2 : ByteArray} {r3 : Bool} {r4 : Int} (h : uart_Write.f i o on 0 v = some (r1, r2, r3, r4)) : i = r1 ∧ on = r3 ∧ 0 = r4 := by
  unfold uart_Write.f at h
  rw [if_pos rfl] at h
  simp only [Option.bind_some] at h
  split at h
  · split at h
    · split at h
      · cases h; exact ⟨rfl, rfl, rfl⟩
      · cases h
    · cases h; exact ⟨rfl, rfl, rfl⟩
  · cases h
theorem shape_uart_Write8.same {i o : ByteArray} {on : Bool} {v : Int} {r1 r2 : ByteArray} {r3 : Bool} {r4 : Int} (h : uart_Write.f i o on 8 v = some (r1, r2, r3, r4)) : i = r1 ∧ (⟨#[]⟩ : ByteArray) = r2 ∧ on = r3 ∧ 0 = r4 := by
  unfold uart_Write.f at h
  rw [if_neg (by decide), if_neg (by decide), if_pos rfl] at h
  cases h; exact ⟨rfl, rfl, rfl, rfl⟩
theorem shape_uart_Read0.same {i o : ByteArray} {on : Bool} {r0 : Int} {r1 r2 : ByteArray} {r3 : Bool} {r4 : Int} (h : uart_Read.f i o on 0 = some (r0, r1, r2, r3, r4)) : o = r2 ∧ on = r3 ∧ 0 = r4 := by
  unfold uart_Read.f at h
  rw [if_pos rfl] at h
  split at h
  · cases h; exact ⟨rfl, rfl, rfl⟩
  · split at h
    · split at h
      · cases h; exact ⟨rfl, rfl, rfl⟩
      · cases h
    · cases h
theorem shape_uart_Read4.same {i o : ByteArray} {on : Bool} {r0 : Int} {r1 r2 : ByteArray} {r3 : Bool} {r4 : Int} (h : uart_Read.f i o on 4 = some (r0, r1, r2, r3, r4)) : i = r1 ∧ o = r2 ∧ on = r3 ∧ 0 = r4 := by
  unfold uart_Read.f at h
  rw [if_neg (by decide), if_pos rfl] at h
  cases h; exact ⟨rfl, rfl, rfl, rfl⟩
theorem shape_uart_Feed.same {i o : ByteArray} {on : Bool} {c : Int} {r1 r2 : ByteArray} {r3 r4 : Bool} (h : uart_Feed.f i o on c = some (r1, r2, r3, r4)) : o = r2 ∧ on = r3 := by
  unfold uart_Feed.f at h
  split at h
  · cases h; exact ⟨rfl, rfl⟩
  · simp only [Option.bind_some] at h
    split at h
    · cases h; exact ⟨rfl, rfl⟩
    · cases h
end Go.Proofs.Ytbkonaalbahojaa.Ext
