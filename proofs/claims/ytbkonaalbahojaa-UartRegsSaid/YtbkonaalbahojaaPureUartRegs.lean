/- Every register, read, write and byte of a bound uart answers; all are as the reference's. -/
import Derived.Test.YtbkonaalbahojaaXx7
import Derived.Test.YtbkonaalbahojaaExtTwins10
namespace Go.Proofs.Ytbkonaalbahojaa.Pure
open Go.RowKit Go.Proofs.Ytbkonaalbahojaa.X Go.Proofs.Ytbkonaalbahojaa.Ext Go.Proofs.YtbkonaalbahojaaW.PrintWords Go.Proofs.YtbkonaalbahojaaW.PrintLast

theorem wf_u32 {a : Int} (h : (Lit.int .u32 a).wf = true) : 0 ≤ a ∧ a ≤ 4294967295 := by
  simp [Lit.wf, IntKind.min, IntKind.max, IntKind.signed, IntKind.bits] at h
  omega
theorem bound_some (i o : ByteArray) (on : Bool) : ∃ i' o', zoetropelaw10_bound.f i o on = some (i', o', on) ∧ i'.size ≤ 16 ∧ o'.size ≤ 64 := by
  unfold zoetropelaw10_bound.f mn
  by_cases c1 : 16 < (i.size : Int) <;> by_cases c2 : 64 < (o.size : Int) <;> simp only [c1, c2, if_true, if_false]
  · refine ⟨_, _, by rw [if_pos (by omega), if_pos (by omega), if_pos (by omega), if_pos (by omega)], ?_, ?_⟩ <;> simp <;> omega
  · refine ⟨_, _, by rw [if_pos (by omega), if_pos (by omega), if_pos (by omega), if_pos (by omega)], ?_, ?_⟩ <;> simp <;> omega
  · refine ⟨_, _, by rw [if_pos (by omega), if_pos (by omega), if_pos (by omega), if_pos (by omega)], ?_, ?_⟩ <;> simp <;> omega
  · refine ⟨_, _, by rw [if_pos (by omega), if_pos (by omega), if_pos (by omega), if_pos (by omega)], ?_, ?_⟩ <;> simp <;> omega
theorem read_some (i o : ByteArray) (on : Bool) (reg : Int) : ∃ r, uart_Read.f i o on reg = some r := by
  unfold uart_Read.f
  have hn := toList_nil_iff i
  by_cases c : reg = 0
  · rw [if_pos c]
    by_cases c2 : (i.size : Int) > 0
    · rw [if_neg (fun e => hn.1 e c2), if_pos (by omega), if_pos (by omega)]; exact ⟨_, rfl⟩
    · rw [if_pos (hn.2 c2)]; exact ⟨_, rfl⟩
  · rw [if_neg c]; split
    · exact ⟨_, rfl⟩
    · split <;> exact ⟨_, rfl⟩
theorem refread_some (k : Nat) (i o : ByteArray) (on : Bool) (reg : Int) : ∃ r, zoetroperef10_Read.f (k + 1) i o on reg = some r := by
  unfold zoetroperef10_Read.f
  simp only [zoetroperef10_Read.j0]
  have go : ∀ c : Bool, (c = true → 0 < (i.size : Int)) → ∃ r, (if c = true then (if 0 < (i.size : Int) then (if 1 ≤ (i.size : Int) then (some ((bt i 0) % 4294967296, i.extract 1 i.size, o, on, (0 : Int))) else (none)) else (none)) else (if reg = 0 then (some (0, i, o, on, 0)) else (if reg = 4 then (some (((i.size : Int)) % 4294967296, i, o, on, 0)) else (if reg = 8 then (some ((o.size : Int) % 256, i, o, on, 0)) else (some (0, (⟨#[]⟩ : ByteArray), (⟨#[]⟩ : ByteArray), false, 100)))))) = some r := by
    intro c hc
    split
    · rename_i h; have := hc h; rw [if_pos this, if_pos (by omega)]; exact ⟨_, rfl⟩
    · split
      · exact ⟨_, rfl⟩
      · split
        · exact ⟨_, rfl⟩
        · split <;> exact ⟨_, rfl⟩
  by_cases c : reg = 0
  · rw [if_pos c]; exact go _ (fun h => of_decide_eq_true h)
  · rw [if_neg c]; exact go false (fun h => by cases h)
theorem nums_size (l : List Int) : (strOfNums l).size = l.length := strOfNums_size l
theorem app_size (a b : ByteArray) : (a ++ b).size = a.size + b.size := ByteArray.size_append
theorem write_some (i o : ByteArray) (on : Bool) (reg v : Int) (ho : o.size ≤ 64) : ∃ r, uart_Write.f i o on reg v = some r := by
  unfold uart_Write.f
  simp only [Option.bind_some]
  have hs : (o ++ strOfNums [v % 256]).size = o.size + 1 := by rw [app_size, nums_size]; rfl
  split
  · rw [if_pos (by rw [nums_size]; simp; omega)]
    split
    · rw [if_pos (by omega)]; exact ⟨_, rfl⟩
    · exact ⟨_, rfl⟩
  · split
    · exact ⟨_, rfl⟩
    · split <;> exact ⟨_, rfl⟩
theorem refwrite_some (i o : ByteArray) (on : Bool) (reg v : Int) (ho : o.size ≤ 64) : ∃ r, zoetroperef10_Write.f i o on reg v = some r := by
  unfold zoetroperef10_Write.f zoetroperef10_one.f
  simp only [Option.bind_some]
  have hs : ∀ n : Int, (o ++ strOfNums [n]).size = o.size + 1 := fun n => by rw [app_size, nums_size]; rfl
  split
  · rw [if_pos (by rw [nums_size]; simp; omega)]
    split
    · rw [if_pos (by have := hs (Int.tmod (wrap64 v) 256 % 256); omega)]; exact ⟨_, rfl⟩
    · exact ⟨_, rfl⟩
  · split
    · exact ⟨_, rfl⟩
    · split <;> exact ⟨_, rfl⟩
theorem feed_some (i o : ByteArray) (on : Bool) (c : Int) : ∃ r, uart_Feed.f i o on c = some r := by
  unfold uart_Feed.f
  simp only [Option.bind_some]
  split
  · exact ⟨_, rfl⟩
  · rw [if_pos (by rw [nums_size]; simp; omega)]; exact ⟨_, rfl⟩
theorem reffeed_some (i o : ByteArray) (on : Bool) (c : Int) : ∃ r, zoetroperef10_Feed.f i o on c = some r := by
  unfold zoetroperef10_Feed.f zoetroperef10_one.f
  simp only [Option.bind_some]
  split
  · exact ⟨_, rfl⟩
  · rw [if_pos (by rw [nums_size]; simp; omega)]; exact ⟨_, rfl⟩
theorem ring_eq (i o : ByteArray) (on : Bool) : uart_Ring.f i o on = some (on && decide ((i.size : Int) > 0)) := by
  unfold uart_Ring.f
  have hn := toList_nil_iff i
  cases on
  · simp
  · rw [if_pos rfl]
    congr 1
    rw [Bool.true_and, Bool.eq_iff_iff]
    simp only [bne_iff_ne, ne_eq, hn, decide_eq_true_eq, Classical.not_not]

theorem UartRegs (a0_0 : ByteArray) (a0_1 : ByteArray) (a0_2 : Bool) (a1 : Int) (a2 : Int) (w0_0 : a0_0.size ≤ maxLen) (w0_1 : a0_1.size ≤ maxLen) (w1 : (Lit.int .u32 a1).wf = true) (w2 : (Lit.int .u32 a2).wf = true) : ∃ k, X.zoetropelaw10_UartRegs.f k a0_0 a0_1 a0_2 a1 a2 = some true := by
  refine ⟨1, ?_⟩
  have h1 := wf_u32 w1
  have h2 := wf_u32 w2
  obtain ⟨i, o, hb, hi, ho⟩ := bound_some a0_0 a0_1 a0_2
  obtain ⟨r1, e1⟩ := read_some i o a0_2 a1
  obtain ⟨r2, e2⟩ := refread_some 0 i o a0_2 a1
  obtain ⟨r3, e3⟩ := write_some i o a0_2 a1 a2 ho
  obtain ⟨r4, e4⟩ := refwrite_some i o a0_2 a1 a2 ho
  obtain ⟨r5, e5⟩ := feed_some i o a0_2 (a2 % 256)
  obtain ⟨r6, e6⟩ := reffeed_some i o a0_2 (a2 % 256)
  have e7 : zoetropelaw10_fixed.f = some true := by decide +kernel
  unfold zoetropelaw10_UartRegs.f
  rw [if_pos (by omega), hb]
  simp only [Option.bind_some, e1, e2, e3, e4, e5, e6, e7, ring_eq]
  cases a0_2 <;> simp
end Go.Proofs.Ytbkonaalbahojaa.Pure
