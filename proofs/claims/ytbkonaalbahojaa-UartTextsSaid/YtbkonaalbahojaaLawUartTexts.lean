/- The row of the law UartTexts. -/
import Derived.Test.YtbkonaalbahojaaRows
import Derived.Test.YtbkonaalbahojaaXx13
import Derived.Test.YtbkonaalbahojaaPureUartTexts
import Derived.WalkKit
import Derived.ProofKit
import Derived.OpenShut
import Derived.ShutString
import Derived.ChangeOld
import Derived.Below
import Derived.Carry
import Derived.SizedLaws
namespace Go.Proofs.Ytbkonaalbahojaa.uartTexts
open Go.ChangeShapes Go.WideShapes Go.ChangeAt Go.RowKit
open Go.ChangeMaps (open_string shut_string)
set_option linter.unusedVariables false
set_option linter.unusedSimpArgs false
theorem own : ownKnob Try.prog.godebug = none := by kernel_rfl
theorem laidOut : laidOutB Try.prog = true := by kernel_rfl
theorem cells4 : Try.prog.cellsOf 4 = 1 := by kernel_rfl
theorem cells9 : Try.prog.cellsOf 9 = 1 := by kernel_rfl
theorem cells23 : Try.prog.cellsOf 23 = 3 := by kernel_rfl
theorem arr3 (cs : Array Value) (h : cs.size = 3) : ∃ x0 x1 x2 : Value, cs = #[x0, x1, x2] := by
  obtain ⟨l⟩ := cs
  match l, h with
  | [x0, x1, x2], _ => exact ⟨x0, x1, x2, rfl⟩
set_option maxRecDepth 100000 in
set_option maxHeartbeats 1000000 in
theorem lifted (os : Os) (started : os.Started) (H : Type) (enc : TypeId × Value → H) :
    ReturnsInHanded {} Try.checked os 7 .any (Rows.uartTextsSpec.pre6 enc Try.prog Try.f7 Rows.uartTextsRow.domain false) (Rows.uartTextsSpec.post enc Try.prog Try.f7 false true false false) := by
  refine returnsInHanded_of_change_sized (C := Try.checked) own started (by kernel_rfl) Try.func7
    (ChangeSpec.witness6 (enc := enc) (C := Try.checked) false ⟨#[], #[.agg #[.string ByteArray.empty, .string ByteArray.empty, .bool false], .string ByteArray.empty], []⟩ 8 (by kernel_rfl) (by kernel_rfl) (by kernel_rfl) (by kernel_rfl)) ?_
  intro W base args ds gs before hval0 hW hcnd hsz0 _
  have hsz : (DataW.weightsEach Try.prog (Try.f7.params.toList ++ Rows.uartTextsSpec.plain.varTypes Try.prog) (ds ++ gs)).all (· ≤ reachBytes) = true := hsz0
  have hval : ∀ (j : Nat) t v, Try.f7.params[j]? = some t → args[j]? = some v → Value.okWide Try.prog W .any base t v := hval0
  have hW' := hW
  obtain ⟨p, q, hA0, hV, rfl, hfz, hnd⟩ := hW
  have hA : DataW.TrodAll enc Try.prog W 0 (fun _ => true) true Try.f7.params.toList args.toList ds p := hA0
  rw [Try.params7] at hA hval hsz
  obtain ⟨v0, vs0, d0, ds0, p0, q0, hargs, rfl, rfl, h0, r0⟩ := trodAll_cons hA
  obtain ⟨v1, vs1, d1, ds1, p1, q1, rfl, rfl, rfl, h1, r1⟩ := trodAll_cons r0
  obtain ⟨rfl, rfl, rfl⟩ := trodAll_nil r1
  obtain rfl : args = #[v0, v1] := by cases args; simp_all
  obtain ⟨rfl, rfl⟩ := trodVars_none hV
  have k0 := h0
  have lt0 : ∀ x ∈ p0, x.block < W.heap.size := by obtain ⟨m, hm⟩ := k0; exact DataW.trod_lt m _ _ _ hm
  obtain ⟨cs0, rfl, hz0⟩ := okWide_struct Try.underlying23 (hval 0 23 v0 rfl rfl)
  obtain ⟨c0_0, c0_1, c0_2, rfl⟩ := arr3 cs0 (hz0.trans cells23)
  obtain ⟨fuel0, hf0⟩ := h0
  obtain ⟨xs0, n0, _, _, _, len0, hg0⟩ := DataW.trod_struct Try.underlying23 hf0
  have g0_0 := (hg0 0 _ rfl).trans (List.getElem?_eq_getElem (show 0 < xs0.length by rw [len0]; decide))
  obtain ⟨a0_0, e0_0, _, w0_0⟩ := DataW.trod_string Try.underlying9 g0_0
  simp [Value.cells, cells9, cells23] at e0_0
  subst e0_0
  have g0_1 := (hg0 1 _ rfl).trans (List.getElem?_eq_getElem (show 1 < xs0.length by rw [len0]; decide))
  obtain ⟨a0_1, e0_1, _, w0_1⟩ := DataW.trod_string Try.underlying9 g0_1
  simp [Value.cells, cells9, cells23] at e0_1
  subst e0_1
  have g0_2 := (hg0 2 _ rfl).trans (List.getElem?_eq_getElem (show 2 < xs0.length by rw [len0]; decide))
  obtain ⟨a0_2, e0_2, _⟩ := DataW.trod_bool Try.underlying4 g0_2
  simp [Value.cells, cells4, cells9, cells23] at e0_2
  subst e0_2
  obtain ⟨a1, rfl, rfl, rfl, y1⟩ := open_string Try.underlying9 (hval 1 9 v1 rfl rfl) h1
  have w1 : a1.size ≤ 140737488351232 := by
    have z := sized_string hsz (j := 1) (t := 9) rfl rfl
    rw [Array.length_toList] at z
    exact z
  clear hA0 hval0 hsz0 hsz
  have hk := Pure.UartTexts a0_0 a0_1 a0_2 a1 w0_0 w0_1 w1
  refine (X.zoetropelaw10_UartTexts.calls a0_0 a0_1 a0_2 a1 true W hk).mono fun e W' ⟨he, bel⟩ => ?_
  subst he
  exact ⟨_, rfl, _, _, _, [], _, [], hW', trodAll_mk1 (shut_bool Try.underlying4 _), (trodAll_cons_mk (Below.trod laidOut (by kernel_rfl) (of_decide_eq_true (by kernel_rfl)) k0 bel lt0) (trodAll_cons_mk (shut_string Try.underlying9 y1) trodAll_mk0)), rfl, bel.frame _, fun h => by cases h⟩
theorem over : Rows.uartTextsRow.holds Try.pinned (OpenSpec.ofChange Rows.uartTextsSpec) :=
  OpenClaim.holds_of_wide 7 Try.f7 rfl rfl rfl rfl rfl rfl rfl ⟨rfl, rfl, rfl, rfl, rfl⟩ rfl rfl rfl rfl rfl (by kernel_rfl) Try.func7 (by kernel_rfl)
    (of_decide_eq_true (by kernel_rfl)) (by unfold Func.isWrapper; first | (rw [if_pos (by decide +kernel)]; kernel_rfl) | (rw [if_neg (by decide +kernel)]; exact ⟨rfl, rfl⟩))
    (fun os started H enc _ => lifted os started H enc)
theorem proved : Rows.UartTextsSaid := over
end Go.Proofs.Ytbkonaalbahojaa.uartTexts
namespace Go.Proofs.Ytbkonaalbahojaa
/-- The row, under a short name, for the claim. -/
theorem uartTexts_holds : Rows.UartTextsSaid := uartTexts.proved
#print axioms uartTexts_holds
end Go.Proofs.Ytbkonaalbahojaa
