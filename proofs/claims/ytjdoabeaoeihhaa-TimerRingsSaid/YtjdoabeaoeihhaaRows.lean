/-
  No cell of these rows narrows 'for every input' (looked for: loops, veiled, ifaces, maps, wideKeys, modest, calm, conditions, laid).
  DERIVED. THE GIVEN ROWS OF THIS SEAT. 6 by the template 'for every input the law returns true; each argument reads behind the call as it read before'; 0 by the template 'total and deterministic' (their statements: YtjdoabeaoeihhaaTotals.lean).
  GIVEN WITH THE SEED: the statements are not yours to turn. If you find one false, say at which input.
  Laid BY PROGRAM, IN A SANDBOX (cutbox-rows.mjs): the forced cells as the released guide's own fill.sh prints them over the translation 6bfb99ea02b551d7… (all of the seat's roots in one cut). By AI agents, Wed Nov 11 2026. No macro, syntax, notation, axiom, sorry.
-/
import Derived.Test.YtjdoabeaoeihhaaChecked
import GoSem.Claim
import GoSem.ClaimJoined
import GoSem.ClaimMapViews
import Derived.JoinedTies
import Derived.KernelRfl
namespace Go.Proofs.Ytjdoabeaoeihhaa
/- THE CELL 'sum', in the pinned program and in every row, IS THE sha256 OF THE DUMP (.gsa) THAT YtjdoabeaoeihhaaProg.lean LOADS. Nothing in Lean hashes anything: it is a label: what it is worth is what the hold of that sum in a sandbox is worth. -/
noncomputable def Try.pinned : Pinned := { name := "ytjdoabeaoeihhaa", sum := "6bfb99ea02b551d7f4d3f5934ee5fe25553754891a074e816126af1100e3063f", checked := Try.checked }
namespace Rows
def none {H : Type} : Left H := { results := [], args := [] }

/-- 'zoetropelaw09.TimerRegs': WHATEVER THE INPUT: true; the input reads as it did. -/
def timerRegsSpec : ChangeSpec := { name := "timerRegs", fn := fun _ => fun
  | [d1, d2, d3] => { results := [.lit (.bool true)], args := [d1, d2, d3] }
  | _ => none }
def timerRegsRow : OpenClaim := { program := "ytjdoabeaoeihhaa", sum := "6bfb99ea02b551d7f4d3f5934ee5fe25553754891a074e816126af1100e3063f", func := "zoetrope/zoetropelaw09.TimerRegs", spec := "timerRegs", unfollowed := true, recurses := true, apart := false }
def TimerRegsSaid : Prop := timerRegsRow.holds Try.pinned (OpenSpec.ofChange timerRegsSpec)

/-- ITS FALSE NEIGHBOUR: 'it returns false'. Refute it at one input. -/
def timerRegsWrong : ChangeSpec := { name := "timerRegs", fn := fun _ => fun
  | [d1, d2, d3] => { results := [.lit (.bool false)], args := [d1, d2, d3] }
  | _ => none }
def TimerRegsWrongFalsely : Prop := timerRegsRow.holds Try.pinned (OpenSpec.ofChange timerRegsWrong)

/-- 'zoetropelaw09.TimerTicks': WHATEVER THE INPUT: true; the input reads as it did. -/
def timerTicksSpec : ChangeSpec := { name := "timerTicks", fn := fun _ => fun
  | [d1, d2] => { results := [.lit (.bool true)], args := [d1, d2] }
  | _ => none }
def timerTicksRow : OpenClaim := { program := "ytjdoabeaoeihhaa", sum := "6bfb99ea02b551d7f4d3f5934ee5fe25553754891a074e816126af1100e3063f", func := "zoetrope/zoetropelaw09.TimerTicks", spec := "timerTicks", unfollowed := true, recurses := true, apart := false }
def TimerTicksSaid : Prop := timerTicksRow.holds Try.pinned (OpenSpec.ofChange timerTicksSpec)

/-- ITS FALSE NEIGHBOUR: 'it returns false'. Refute it at one input. -/
def timerTicksWrong : ChangeSpec := { name := "timerTicks", fn := fun _ => fun
  | [d1, d2] => { results := [.lit (.bool false)], args := [d1, d2] }
  | _ => none }
def TimerTicksWrongFalsely : Prop := timerTicksRow.holds Try.pinned (OpenSpec.ofChange timerTicksWrong)

/-- 'zoetropelaw09.TimerTexts': WHATEVER THE INPUT: true; the input reads as it did. -/
def timerTextsSpec : ChangeSpec := { name := "timerTexts", fn := fun _ => fun
  | [d1, d2] => { results := [.lit (.bool true)], args := [d1, d2] }
  | _ => none }
def timerTextsRow : OpenClaim := { program := "ytjdoabeaoeihhaa", sum := "6bfb99ea02b551d7f4d3f5934ee5fe25553754891a074e816126af1100e3063f", func := "zoetrope/zoetropelaw09.TimerTexts", spec := "timerTexts", unfollowed := true, recurses := true, apart := false }
def TimerTextsSaid : Prop := timerTextsRow.holds Try.pinned (OpenSpec.ofChange timerTextsSpec)

/-- ITS FALSE NEIGHBOUR: 'it returns false'. Refute it at one input. -/
def timerTextsWrong : ChangeSpec := { name := "timerTexts", fn := fun _ => fun
  | [d1, d2] => { results := [.lit (.bool false)], args := [d1, d2] }
  | _ => none }
def TimerTextsWrongFalsely : Prop := timerTextsRow.holds Try.pinned (OpenSpec.ofChange timerTextsWrong)

/-- 'zoetropelaw09.TimerParts': WHATEVER THE INPUT: true; the input reads as it did. -/
def timerPartsSpec : ChangeSpec := { name := "timerParts", fn := fun _ => fun
  | [d] => { results := [.lit (.bool true)], args := [d] }
  | _ => none }
def timerPartsRow : OpenClaim := { program := "ytjdoabeaoeihhaa", sum := "6bfb99ea02b551d7f4d3f5934ee5fe25553754891a074e816126af1100e3063f", func := "zoetrope/zoetropelaw09.TimerParts", spec := "timerParts", unfollowed := true, recurses := true, apart := false }
def TimerPartsSaid : Prop := timerPartsRow.holds Try.pinned (OpenSpec.ofChange timerPartsSpec)

/-- ITS FALSE NEIGHBOUR: 'it returns false'. Refute it at one input. -/
def timerPartsWrong : ChangeSpec := { name := "timerParts", fn := fun _ => fun
  | [d] => { results := [.lit (.bool false)], args := [d] }
  | _ => none }
def TimerPartsWrongFalsely : Prop := timerPartsRow.holds Try.pinned (OpenSpec.ofChange timerPartsWrong)

/-- 'zoetropelaw09.TimerFar': WHATEVER THE INPUT: true; the input reads as it did. -/
def timerFarSpec : ChangeSpec := { name := "timerFar", fn := fun _ => fun
  | [d1, d2] => { results := [.lit (.bool true)], args := [d1, d2] }
  | _ => none }
def timerFarRow : OpenClaim := { program := "ytjdoabeaoeihhaa", sum := "6bfb99ea02b551d7f4d3f5934ee5fe25553754891a074e816126af1100e3063f", func := "zoetrope/zoetropelaw09.TimerFar", spec := "timerFar", unfollowed := true, recurses := true, apart := false }
def TimerFarSaid : Prop := timerFarRow.holds Try.pinned (OpenSpec.ofChange timerFarSpec)

/-- ITS FALSE NEIGHBOUR: 'it returns false'. Refute it at one input. -/
def timerFarWrong : ChangeSpec := { name := "timerFar", fn := fun _ => fun
  | [d1, d2] => { results := [.lit (.bool false)], args := [d1, d2] }
  | _ => none }
def TimerFarWrongFalsely : Prop := timerFarRow.holds Try.pinned (OpenSpec.ofChange timerFarWrong)

/-- 'zoetropelaw09.TimerRings': WHATEVER THE INPUT: true; the input reads as it did. -/
def timerRingsSpec : ChangeSpec := { name := "timerRings", fn := fun _ => fun
  | [d1, d2] => { results := [.lit (.bool true)], args := [d1, d2] }
  | _ => none }
def timerRingsRow : OpenClaim := { program := "ytjdoabeaoeihhaa", sum := "6bfb99ea02b551d7f4d3f5934ee5fe25553754891a074e816126af1100e3063f", func := "zoetrope/zoetropelaw09.TimerRings", spec := "timerRings", unfollowed := true, recurses := true, apart := false }
def TimerRingsSaid : Prop := timerRingsRow.holds Try.pinned (OpenSpec.ofChange timerRingsSpec)

/-- ITS FALSE NEIGHBOUR: 'it returns false'. Refute it at one input. -/
def timerRingsWrong : ChangeSpec := { name := "timerRings", fn := fun _ => fun
  | [d1, d2] => { results := [.lit (.bool false)], args := [d1, d2] }
  | _ => none }
def TimerRingsWrongFalsely : Prop := timerRingsRow.holds Try.pinned (OpenSpec.ofChange timerRingsWrong)

/- THE SECOND FORM. 'bulk': how many values and letters a reading holds, each counted each time it is reached (what is shared counts as often as it is met; a slice's spare places count too). A statement '..UptoSaid' is the law's where the arguments, and the package variables that the reading takes, are together of bulk at most 1048576: NARROWER than '..Said'. Prove '..Said' where nothing that the law and all that it calls make is longer than what came in: it says more and counts as full. Else prove '..UptoSaid'. A law counts once. -/
mutual
def uptoBulk {H : Type} : DataW H → Nat
  | .lit (.string bytes) => bytes.length + 1
  | .lit _ => 1
  | .nil => 1
  | .ptr d => uptoBulk d + 1
  | .slice elems spare => uptoBulkAll elems + uptoBulkAll spare + 1
  | .agg parts => uptoBulkAll parts + 1
  | .iface _ d => uptoBulk d + 1
  | .map entries => uptoBulkEntries entries + 1
  | .held _ => 1
def uptoBulkAll {H : Type} : List (DataW H) → Nat
  | [] => 0
  | d :: r => uptoBulk d + uptoBulkAll r
def uptoBulkEntries {H : Type} : List (Lit × DataW H) → Nat
  | [] => 0
  | x :: r => uptoBulkEntry x + uptoBulkEntries r
def uptoBulkEntry {H : Type} : Lit × DataW H → Nat
  | (.string bytes, d) => bytes.length + uptoBulk d + 1
  | (_, d) => uptoBulk d + 1
 end
def uptoSmall : (H : Type) → List (DataW H) → Bool := fun _ ds => decide (uptoBulkAll ds ≤ 1048576)
def OpenSpec.upto (s : _root_.Go.ChangeSpec) : _root_.Go.OpenSpec := { _root_.Go.OpenSpec.ofChange s with cond := some uptoSmall }

/-- 'zoetropelaw09.TimerRegs', WHERE WHAT IT READS IS OF BULK AT MOST 1048576: true; the input reads as it did. -/
def timerRegsUptoRow : OpenClaim := { program := "ytjdoabeaoeihhaa", sum := "6bfb99ea02b551d7f4d3f5934ee5fe25553754891a074e816126af1100e3063f", func := "zoetrope/zoetropelaw09.TimerRegs", spec := "timerRegs", unfollowed := true, recurses := true, apart := false, narrowed := true }
def TimerRegsUptoSaid : Prop := timerRegsUptoRow.holds Try.pinned (OpenSpec.upto timerRegsSpec)

/-- 'zoetropelaw09.TimerTicks', WHERE WHAT IT READS IS OF BULK AT MOST 1048576: true; the input reads as it did. -/
def timerTicksUptoRow : OpenClaim := { program := "ytjdoabeaoeihhaa", sum := "6bfb99ea02b551d7f4d3f5934ee5fe25553754891a074e816126af1100e3063f", func := "zoetrope/zoetropelaw09.TimerTicks", spec := "timerTicks", unfollowed := true, recurses := true, apart := false, narrowed := true }
def TimerTicksUptoSaid : Prop := timerTicksUptoRow.holds Try.pinned (OpenSpec.upto timerTicksSpec)

/-- 'zoetropelaw09.TimerTexts', WHERE WHAT IT READS IS OF BULK AT MOST 1048576: true; the input reads as it did. -/
def timerTextsUptoRow : OpenClaim := { program := "ytjdoabeaoeihhaa", sum := "6bfb99ea02b551d7f4d3f5934ee5fe25553754891a074e816126af1100e3063f", func := "zoetrope/zoetropelaw09.TimerTexts", spec := "timerTexts", unfollowed := true, recurses := true, apart := false, narrowed := true }
def TimerTextsUptoSaid : Prop := timerTextsUptoRow.holds Try.pinned (OpenSpec.upto timerTextsSpec)

/-- 'zoetropelaw09.TimerParts', WHERE WHAT IT READS IS OF BULK AT MOST 1048576: true; the input reads as it did. -/
def timerPartsUptoRow : OpenClaim := { program := "ytjdoabeaoeihhaa", sum := "6bfb99ea02b551d7f4d3f5934ee5fe25553754891a074e816126af1100e3063f", func := "zoetrope/zoetropelaw09.TimerParts", spec := "timerParts", unfollowed := true, recurses := true, apart := false, narrowed := true }
def TimerPartsUptoSaid : Prop := timerPartsUptoRow.holds Try.pinned (OpenSpec.upto timerPartsSpec)

/-- 'zoetropelaw09.TimerFar', WHERE WHAT IT READS IS OF BULK AT MOST 1048576: true; the input reads as it did. -/
def timerFarUptoRow : OpenClaim := { program := "ytjdoabeaoeihhaa", sum := "6bfb99ea02b551d7f4d3f5934ee5fe25553754891a074e816126af1100e3063f", func := "zoetrope/zoetropelaw09.TimerFar", spec := "timerFar", unfollowed := true, recurses := true, apart := false, narrowed := true }
def TimerFarUptoSaid : Prop := timerFarUptoRow.holds Try.pinned (OpenSpec.upto timerFarSpec)

/-- 'zoetropelaw09.TimerRings', WHERE WHAT IT READS IS OF BULK AT MOST 1048576: true; the input reads as it did. -/
def timerRingsUptoRow : OpenClaim := { program := "ytjdoabeaoeihhaa", sum := "6bfb99ea02b551d7f4d3f5934ee5fe25553754891a074e816126af1100e3063f", func := "zoetrope/zoetropelaw09.TimerRings", spec := "timerRings", unfollowed := true, recurses := true, apart := false, narrowed := true }
def TimerRingsUptoSaid : Prop := timerRingsUptoRow.holds Try.pinned (OpenSpec.upto timerRingsSpec)

end Rows
end Go.Proofs.Ytjdoabeaoeihhaa
