/-
  No cell of these rows narrows 'for every input' (looked for: loops, veiled, ifaces, maps, wideKeys, modest, calm, conditions, laid).
  DERIVED. THE GIVEN ROWS OF THIS SEAT. 5 by the template 'for every input the law returns true; each argument reads behind the call as it read before'; 0 by the template 'total and deterministic' (their statements: YtbkonaalbahojaaTotals.lean).
  GIVEN WITH THE SEED: the statements are not yours to turn. If you find one false, say at which input.
  Laid BY PROGRAM, IN A SANDBOX (cutbox-rows.mjs): the forced cells as the released guide's own fill.sh prints them over the translation 005e8b94693afd2d… (all of the seat's roots in one cut). By AI agents, Wed Nov 11 2026. No macro, syntax, notation, axiom, sorry.
-/
import Derived.Test.YtbkonaalbahojaaChecked
import GoSem.Claim
import GoSem.ClaimJoined
import GoSem.ClaimMapViews
import Derived.JoinedTies
import Derived.KernelRfl
namespace Go.Proofs.Ytbkonaalbahojaa
/- THE CELL 'sum', in the pinned program and in every row, IS THE sha256 OF THE DUMP (.gsa) THAT YtbkonaalbahojaaProg.lean LOADS. Nothing in Lean hashes anything: it is a label: what it is worth is what the hold of that sum in a sandbox is worth. -/
noncomputable def Try.pinned : Pinned := { name := "ytbkonaalbahojaa", sum := "005e8b94693afd2d4f768fd3dba7c9489848021339de388b166e094d964f04d8", checked := Try.checked }
namespace Rows
def none {H : Type} : Left H := { results := [], args := [] }

/-- 'zoetropelaw10.UartRegs': WHATEVER THE INPUT: true; the input reads as it did. -/
def uartRegsSpec : ChangeSpec := { name := "uartRegs", fn := fun _ => fun
  | [d1, d2, d3] => { results := [.lit (.bool true)], args := [d1, d2, d3] }
  | _ => none }
def uartRegsRow : OpenClaim := { program := "ytbkonaalbahojaa", sum := "005e8b94693afd2d4f768fd3dba7c9489848021339de388b166e094d964f04d8", func := "zoetrope/zoetropelaw10.UartRegs", spec := "uartRegs", apart := false }
def UartRegsSaid : Prop := uartRegsRow.holds Try.pinned (OpenSpec.ofChange uartRegsSpec)

/-- ITS FALSE NEIGHBOUR: 'it returns false'. Refute it at one input. -/
def uartRegsWrong : ChangeSpec := { name := "uartRegs", fn := fun _ => fun
  | [d1, d2, d3] => { results := [.lit (.bool false)], args := [d1, d2, d3] }
  | _ => none }
def UartRegsWrongFalsely : Prop := uartRegsRow.holds Try.pinned (OpenSpec.ofChange uartRegsWrong)

/-- 'zoetropelaw10.UartOrder': WHATEVER THE INPUT: true; the input reads as it did. -/
def uartOrderSpec : ChangeSpec := { name := "uartOrder", fn := fun _ => fun
  | [d] => { results := [.lit (.bool true)], args := [d] }
  | _ => none }
def uartOrderRow : OpenClaim := { program := "ytbkonaalbahojaa", sum := "005e8b94693afd2d4f768fd3dba7c9489848021339de388b166e094d964f04d8", func := "zoetrope/zoetropelaw10.UartOrder", spec := "uartOrder", apart := false }
def UartOrderSaid : Prop := uartOrderRow.holds Try.pinned (OpenSpec.ofChange uartOrderSpec)

/-- ITS FALSE NEIGHBOUR: 'it returns false'. Refute it at one input. -/
def uartOrderWrong : ChangeSpec := { name := "uartOrder", fn := fun _ => fun
  | [d] => { results := [.lit (.bool false)], args := [d] }
  | _ => none }
def UartOrderWrongFalsely : Prop := uartOrderRow.holds Try.pinned (OpenSpec.ofChange uartOrderWrong)

/-- 'zoetropelaw10.UartOut': WHATEVER THE INPUT: true; the input reads as it did. -/
def uartOutSpec : ChangeSpec := { name := "uartOut", fn := fun _ => fun
  | [d1, d2] => { results := [.lit (.bool true)], args := [d1, d2] }
  | _ => none }
def uartOutRow : OpenClaim := { program := "ytbkonaalbahojaa", sum := "005e8b94693afd2d4f768fd3dba7c9489848021339de388b166e094d964f04d8", func := "zoetrope/zoetropelaw10.UartOut", spec := "uartOut", apart := false }
def UartOutSaid : Prop := uartOutRow.holds Try.pinned (OpenSpec.ofChange uartOutSpec)

/-- ITS FALSE NEIGHBOUR: 'it returns false'. Refute it at one input. -/
def uartOutWrong : ChangeSpec := { name := "uartOut", fn := fun _ => fun
  | [d1, d2] => { results := [.lit (.bool false)], args := [d1, d2] }
  | _ => none }
def UartOutWrongFalsely : Prop := uartOutRow.holds Try.pinned (OpenSpec.ofChange uartOutWrong)

/-- 'zoetropelaw10.UartApart': WHATEVER THE INPUT: true; the input reads as it did. -/
def uartApartSpec : ChangeSpec := { name := "uartApart", fn := fun _ => fun
  | [d1, d2] => { results := [.lit (.bool true)], args := [d1, d2] }
  | _ => none }
def uartApartRow : OpenClaim := { program := "ytbkonaalbahojaa", sum := "005e8b94693afd2d4f768fd3dba7c9489848021339de388b166e094d964f04d8", func := "zoetrope/zoetropelaw10.UartApart", spec := "uartApart", apart := false }
def UartApartSaid : Prop := uartApartRow.holds Try.pinned (OpenSpec.ofChange uartApartSpec)

/-- ITS FALSE NEIGHBOUR: 'it returns false'. Refute it at one input. -/
def uartApartWrong : ChangeSpec := { name := "uartApart", fn := fun _ => fun
  | [d1, d2] => { results := [.lit (.bool false)], args := [d1, d2] }
  | _ => none }
def UartApartWrongFalsely : Prop := uartApartRow.holds Try.pinned (OpenSpec.ofChange uartApartWrong)

/-- 'zoetropelaw10.UartTexts': WHATEVER THE INPUT: true; the input reads as it did. -/
def uartTextsSpec : ChangeSpec := { name := "uartTexts", fn := fun _ => fun
  | [d1, d2] => { results := [.lit (.bool true)], args := [d1, d2] }
  | _ => none }
def uartTextsRow : OpenClaim := { program := "ytbkonaalbahojaa", sum := "005e8b94693afd2d4f768fd3dba7c9489848021339de388b166e094d964f04d8", func := "zoetrope/zoetropelaw10.UartTexts", spec := "uartTexts", apart := false }
def UartTextsSaid : Prop := uartTextsRow.holds Try.pinned (OpenSpec.ofChange uartTextsSpec)

/-- ITS FALSE NEIGHBOUR: 'it returns false'. Refute it at one input. -/
def uartTextsWrong : ChangeSpec := { name := "uartTexts", fn := fun _ => fun
  | [d1, d2] => { results := [.lit (.bool false)], args := [d1, d2] }
  | _ => none }
def UartTextsWrongFalsely : Prop := uartTextsRow.holds Try.pinned (OpenSpec.ofChange uartTextsWrong)

/- THE SECOND FORM. 'bulk': how many values and letters a reading holds, each counted each time it is reached (what is shared counts as often as it is met; a slice's spare places count too). A statement '..UptoSaid' is the law's where the arguments, and the package variables that the reading takes, are together of bulk at most 1048576: NARROWER than '..Said'. Prove '..Said' where nothing that the law and all that it calls make is longer than what came in: it says more and counts as full. Else prove '..UptoSaid'. A law counts once. -/
mutual
def uptoBulk {H : Type} : DataW H → Nat
  | .lit (.string bytes) => bytes.length + 1
  | .lit _ => 1
  | .nil => 1
  | .ptr d => uptoBulk d + 1
  | .slice elems spare => uptoBulkAll elems + uptoBulkAll spare + 1
  | .agg parts => uptoBulkAll parts + 1
  | .iface _ d => uptoBulk d + 1
  | .map entries => uptoBulkEntries entries + 1
  | .held _ => 1
def uptoBulkAll {H : Type} : List (DataW H) → Nat
  | [] => 0
  | d :: r => uptoBulk d + uptoBulkAll r
def uptoBulkEntries {H : Type} : List (Lit × DataW H) → Nat
  | [] => 0
  | x :: r => uptoBulkEntry x + uptoBulkEntries r
def uptoBulkEntry {H : Type} : Lit × DataW H → Nat
  | (.string bytes, d) => bytes.length + uptoBulk d + 1
  | (_, d) => uptoBulk d + 1
 end
def uptoSmall : (H : Type) → List (DataW H) → Bool := fun _ ds => decide (uptoBulkAll ds ≤ 1048576)
def OpenSpec.upto (s : _root_.Go.ChangeSpec) : _root_.Go.OpenSpec := { _root_.Go.OpenSpec.ofChange s with cond := some uptoSmall }

/-- 'zoetropelaw10.UartRegs', WHERE WHAT IT READS IS OF BULK AT MOST 1048576: true; the input reads as it did. -/
def uartRegsUptoRow : OpenClaim := { program := "ytbkonaalbahojaa", sum := "005e8b94693afd2d4f768fd3dba7c9489848021339de388b166e094d964f04d8", func := "zoetrope/zoetropelaw10.UartRegs", spec := "uartRegs", apart := false, narrowed := true }
def UartRegsUptoSaid : Prop := uartRegsUptoRow.holds Try.pinned (OpenSpec.upto uartRegsSpec)

/-- 'zoetropelaw10.UartOrder', WHERE WHAT IT READS IS OF BULK AT MOST 1048576: true; the input reads as it did. -/
def uartOrderUptoRow : OpenClaim := { program := "ytbkonaalbahojaa", sum := "005e8b94693afd2d4f768fd3dba7c9489848021339de388b166e094d964f04d8", func := "zoetrope/zoetropelaw10.UartOrder", spec := "uartOrder", apart := false, narrowed := true }
def UartOrderUptoSaid : Prop := uartOrderUptoRow.holds Try.pinned (OpenSpec.upto uartOrderSpec)

/-- 'zoetropelaw10.UartOut', WHERE WHAT IT READS IS OF BULK AT MOST 1048576: true; the input reads as it did. -/
def uartOutUptoRow : OpenClaim := { program := "ytbkonaalbahojaa", sum := "005e8b94693afd2d4f768fd3dba7c9489848021339de388b166e094d964f04d8", func := "zoetrope/zoetropelaw10.UartOut", spec := "uartOut", apart := false, narrowed := true }
def UartOutUptoSaid : Prop := uartOutUptoRow.holds Try.pinned (OpenSpec.upto uartOutSpec)

/-- 'zoetropelaw10.UartApart', WHERE WHAT IT READS IS OF BULK AT MOST 1048576: true; the input reads as it did. -/
def uartApartUptoRow : OpenClaim := { program := "ytbkonaalbahojaa", sum := "005e8b94693afd2d4f768fd3dba7c9489848021339de388b166e094d964f04d8", func := "zoetrope/zoetropelaw10.UartApart", spec := "uartApart", apart := false, narrowed := true }
def UartApartUptoSaid : Prop := uartApartUptoRow.holds Try.pinned (OpenSpec.upto uartApartSpec)

/-- 'zoetropelaw10.UartTexts', WHERE WHAT IT READS IS OF BULK AT MOST 1048576: true; the input reads as it did. -/
def uartTextsUptoRow : OpenClaim := { program := "ytbkonaalbahojaa", sum := "005e8b94693afd2d4f768fd3dba7c9489848021339de388b166e094d964f04d8", func := "zoetrope/zoetropelaw10.UartTexts", spec := "uartTexts", apart := false, narrowed := true }
def UartTextsUptoSaid : Prop := uartTextsUptoRow.holds Try.pinned (OpenSpec.upto uartTextsSpec)

end Rows
end Go.Proofs.Ytbkonaalbahojaa
