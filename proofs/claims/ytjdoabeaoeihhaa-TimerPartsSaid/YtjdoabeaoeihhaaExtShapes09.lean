/- A timer that is set has both numbers. -/
import Derived.Test.YtjdoabeaoeihhaaXx2
namespace Go.Proofs.Ytjdoabeaoeihhaa.Ext
open Go.RowKit Go.Proofs.YtjdoabeaoeihhaaW.PrintWords Go.Proofs.Ytjdoabeaoeihhaa.X
theorem shape_timer_Write0.same {e l : Int} {r : Bool} {v r1 r2 : Int} {r3 : Bool} {r4 : Int} (h : timer_Write.f e l r 0 v = some (r1, r2, r3, r4)) : v = r1 ∧ v = r2 ∧ r = r3 ∧ 0 = r4 := by
  unfold timer_Write.f at h
  rw [if_pos rfl] at h
  cases h; exact ⟨rfl, rfl, rfl, rfl⟩
end Go.Proofs.Ytjdoabeaoeihhaa.Ext
