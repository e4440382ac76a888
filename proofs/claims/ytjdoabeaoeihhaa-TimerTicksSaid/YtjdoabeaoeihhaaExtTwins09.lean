/- The reference's timer registers answer as the program's do. -/
import Derived.Test.YtjdoabeaoeihhaaXx2
import Derived.Test.YtjdoabeaoeihhaaXx2
import Derived.Test.YtjdoabeaoeihhaaXx2
import Derived.Test.YtjdoabeaoeihhaaXx2
namespace Go.Proofs.Ytjdoabeaoeihhaa.Ext
open Go.RowKit Go.Proofs.YtjdoabeaoeihhaaW.PrintWords Go.Proofs.Ytjdoabeaoeihhaa.X

theorem twin_zoetroperef09_Read.same {e l : Int} {r : Bool} {reg : Int} {x y : Int × Int} (h : timer_Read.f e l r reg = some x) (h' : zoetroperef09_Read.f e l r reg = some y) : x = y := by
  have hb : timer_bit.f = zoetroperef09_Bit.f := rfl
  unfold timer_Read.f at h
  unfold zoetroperef09_Read.f at h'
  rw [hb] at h
  rw [h] at h'; exact Option.some.inj h'
theorem twin_zoetroperef09_Write.same {e l : Int} {r : Bool} {reg v : Int} {x y : Int × Int × Bool × Int} (h : timer_Write.f e l r reg v = some x) (h' : zoetroperef09_Write.f e l r reg v = some y) : x = y := by
  unfold timer_Write.f at h
  unfold zoetroperef09_Write.f at h'
  rw [h] at h'; exact Option.some.inj h'
end Go.Proofs.Ytjdoabeaoeihhaa.Ext
