/- What comes in and what goes out of a bound uart are apart. -/
import Derived.Test.YtbkonaalbahojaaXx10
import Derived.Test.YtbkonaalbahojaaPureUartRegs
namespace Go.Proofs.Ytbkonaalbahojaa.Pure
open Go.RowKit Go.Proofs.Ytbkonaalbahojaa.X Go.Proofs.Ytbkonaalbahojaa.Ext Go.Proofs.YtbkonaalbahojaaW.PrintWords Go.Proofs.YtbkonaalbahojaaW.PrintLast

theorem UartApart (a0_0 : ByteArray) (a0_1 : ByteArray) (a0_2 : Bool) (a1 : Int) (_w0 : a0_0.size ≤ maxLen) (_w1 : a0_1.size ≤ maxLen) (w1 : (Lit.int .u32 a1).wf = true) : X.zoetropelaw10_UartApart.f a0_0 a0_1 a0_2 a1 = some true := by
  have h1 := wf_u32 w1
  obtain ⟨i, o, hb, hi, ho⟩ := bound_some a0_0 a0_1 a0_2
  obtain ⟨r1, e1⟩ := write_some i o a0_2 0 a1 ho
  obtain ⟨r2, e2⟩ := read_some i o a0_2 0
  obtain ⟨r3, e3⟩ := write_some i o a0_2 8 a1 ho
  have e4 : ∃ x y, uart_Feed.f i o a0_2 (a1 % 256) = some (x, y, a0_2, decide ((i.size : Int) < 16)) := by
    unfold uart_Feed.f
    simp only [Option.bind_some]
    split
    · exact ⟨_, _, by rw [show decide ((i.size : Int) < 16) = false from by simp; omega]⟩
    · rw [if_pos (by rw [nums_size]; simp; omega)]; exact ⟨_, _, by rw [show decide ((i.size : Int) < 16) = true from by simp; omega]⟩
  obtain ⟨x, y, e4⟩ := e4
  have e7 : zoetropelaw10_fixed.f = some true := by decide +kernel
  unfold zoetropelaw10_UartApart.f
  rw [if_pos (by omega), hb]
  simp only [Option.bind_some, e1, e2, e3, e4, e7]
  simp
end Go.Proofs.Ytbkonaalbahojaa.Pure
