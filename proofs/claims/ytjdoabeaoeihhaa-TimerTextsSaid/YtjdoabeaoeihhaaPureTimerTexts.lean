/- The bytes of every timer are parsed as it was. -/
import Derived.Test.YtjdoabeaoeihhaaXx8
import Derived.Test.YtjdoabeaoeihhaaLibTimer
import Derived.Test.YtjdoabeaoeihhaaExtTwins09t
namespace Go.Proofs.Ytjdoabeaoeihhaa.Pure
open Go.RowKit Go.Proofs.Ytjdoabeaoeihhaa.X Go.Proofs.Ytjdoabeaoeihhaa.Ext Go.Proofs.YtjdoabeaoeihhaaW.PrintWords Go.Proofs.YtjdoabeaoeihhaaW.PrintLast
theorem texts_fixed : zoetropelaw09_fixed.f 64 = some true := by decide +kernel
theorem text_back (e l : Int) (r : Bool) (he : 0 ≤ e ∧ e ≤ 4294967295) (hl : 0 ≤ l ∧ l ≤ 4294967295) : timer_Parse.f (strOfNums (four e ++ four l ++ [bitN r])) = some (e, l, r, 0) := by
  have hz : (strOfNums (four e ++ four l ++ [bitN r])).size = 9 := strOfNums_size _
  have hd : (strOfNums (four e ++ four l ++ [bitN r])).data.toList = (four e ++ four l ++ [bitN r]).map (fun n => UInt8.ofNat n.toNat) := Bs.nums _
  have hn : ∀ n : Int, 0 ≤ n → n < 256 → ((UInt8.ofNat n.toNat).toNat : Int) = n := by
    intro n h0 h1; simp only [UInt8.toNat_ofNat']; omega
  have h8 : bt (strOfNums (four e ++ four l ++ [bitN r])) 8 = bitN r := by
    rw [Bs.bt_eq, hd]
    show (((UInt8.ofNat (bitN r).toNat)).toNat : Int) = bitN r
    cases r <;> rfl
  have w0 : word (strOfNums (four e ++ four l ++ [bitN r])) (0 : Nat) 4 = e := by
    rw [word_of _ 0 _ hd]
    show (((((UInt8.ofNat (e / 16777216 % 256).toNat).toNat : Int) * 256 + ((UInt8.ofNat (e / 65536 % 256).toNat).toNat : Int)) * 256 + ((UInt8.ofNat (e / 256 % 256).toNat).toNat : Int)) * 256 + ((UInt8.ofNat (e % 256).toNat).toNat : Int)) = e
    rw [hn _ (by omega) (by omega), hn _ (by omega) (by omega), hn _ (by omega) (by omega), hn _ (by omega) (by omega)]
    omega
  have w4 : word (strOfNums (four e ++ four l ++ [bitN r])) (4 : Nat) 4 = l := by
    rw [word_of _ 4 _ hd]
    show (((((UInt8.ofNat (l / 16777216 % 256).toNat).toNat : Int) * 256 + ((UInt8.ofNat (l / 65536 % 256).toNat).toNat : Int)) * 256 + ((UInt8.ofNat (l / 256 % 256).toNat).toNat : Int)) * 256 + ((UInt8.ofNat (l % 256).toNat).toNat : Int)) = l
    rw [hn _ (by omega) (by omega), hn _ (by omega) (by omega), hn _ (by omega) (by omega), hn _ (by omega) (by omega)]
    omega
  unfold timer_Parse.f
  rw [if_pos ⟨hz, by rw [h8]; cases r <;> decide⟩]
  have w0' : word (strOfNums (four e ++ four l ++ [bitN r])) 0 4 = e := w0
  have w4' : word (strOfNums (four e ++ four l ++ [bitN r])) 4 4 = l := w4
  rw [w0', w4', h8]
  cases r <;> rfl
theorem TimerTexts (a0_0 : Int) (a0_1 : Int) (a0_2 : Bool) (a1 : ByteArray) (w0_0 : (Lit.int .u32 a0_0).wf = true) (w0_1 : (Lit.int .u32 a0_1).wf = true) (_w1 : a1.size ≤ 140737488351232) : ∃ k, X.zoetropelaw09_TimerTexts.f k a0_0 a0_1 a0_2 a1 = some true := by
  refine ⟨64, ?_⟩
  have h0 := wf_u32 w0_0
  have h1 := wf_u32 w0_1
  obtain ⟨r1, e1⟩ : ∃ r, timer_Parse.f a1 = some r := by unfold timer_Parse.f; split <;> exact ⟨_, rfl⟩
  have e2 : zoetroperef09_Parse.f 64 a1 = some r1 := at_rounds (g := fun k => zoetroperef09_Parse.f k a1) (zoetroperef09_Parse.mono a1) (show 5 ≤ 64 by omega) ((ref_parse a1).trans e1)
  have e3 : timer_Text.f 64 a0_0 a0_1 a0_2 = some (strOfNums (four a0_0 ++ four a0_1 ++ [bitN a0_2])) := at_rounds (g := fun k => timer_Text.f k a0_0 a0_1 a0_2) (timer_Text.mono a0_0 a0_1 a0_2) (show 3 ≤ 64 by omega) (text_at a0_0 a0_1 a0_2)
  have e4 := text_back a0_0 a0_1 a0_2 h0 h1
  have e5 := ref_text a0_0 a0_1 a0_2 h0 h1
  unfold zoetropelaw09_TimerTexts.f
  rw [if_pos (by omega), e1]
  simp only [Option.bind_some, e2, e3, e4, e5, texts_fixed]
  simp
end Go.Proofs.Ytjdoabeaoeihhaa.Pure
