/-
  No cell of these rows narrows 'for every input' (looked for: loops, veiled, ifaces, maps, wideKeys, modest, calm, conditions, laid).
  DERIVED. THE GIVEN ROWS OF THIS SEAT. 6 by the template 'for every input the law returns true; each argument reads behind the call as it read before'; 0 by the template 'total and deterministic' (their statements: YtdaocpkmjkegcaaTotals.lean).
  GIVEN WITH THE SEED: the statements are not yours to turn. If you find one false, say at which input.
  Laid BY PROGRAM, IN A SANDBOX (cutbox-rows.mjs): the forced cells as the released guide's own fill.sh prints them over the translation 57166a621fdcbbb8… (all of the seat's roots in one cut). By AI agents, Wed Nov 11 2026. No macro, syntax, notation, axiom, sorry.
-/
import Derived.Test.YtdaocpkmjkegcaaChecked
import GoSem.Claim
import GoSem.ClaimJoined
import GoSem.ClaimMapViews
import Derived.JoinedTies
import Derived.KernelRfl
namespace Go.Proofs.Ytdaocpkmjkegcaa
/- THE CELL 'sum', in the pinned program and in every row, IS THE sha256 OF THE DUMP (.gsa) THAT YtdaocpkmjkegcaaProg.lean LOADS. Nothing in Lean hashes anything: it is a label: what it is worth is what the hold of that sum in a sandbox is worth. -/
noncomputable def Try.pinned : Pinned := { name := "ytdaocpkmjkegcaa", sum := "57166a621fdcbbb8e88c291591ec834a5d0eec3a66d36044eb9bb9723d4f606c", checked := Try.checked }
namespace Rows
def none {H : Type} : Left H := { results := [], args := [] }

/-- 'zoetropelaw03.RngSeeds': WHATEVER THE INPUT: true; the input reads as it did. -/
def rngSeedsSpec : ChangeSpec := { name := "rngSeeds", fn := fun _ => fun
  | [d] => { results := [.lit (.bool true)], args := [d] }
  | _ => none }
def rngSeedsRow : OpenClaim := { program := "ytdaocpkmjkegcaa", sum := "57166a621fdcbbb8e88c291591ec834a5d0eec3a66d36044eb9bb9723d4f606c", func := "zoetrope/zoetropelaw03.RngSeeds", spec := "rngSeeds", apart := false }
def RngSeedsSaid : Prop := rngSeedsRow.holds Try.pinned (OpenSpec.ofChange rngSeedsSpec)

/-- ITS FALSE NEIGHBOUR: 'it returns false'. Refute it at one input. -/
def rngSeedsWrong : ChangeSpec := { name := "rngSeeds", fn := fun _ => fun
  | [d] => { results := [.lit (.bool false)], args := [d] }
  | _ => none }
def RngSeedsWrongFalsely : Prop := rngSeedsRow.holds Try.pinned (OpenSpec.ofChange rngSeedsWrong)

/-- 'zoetropelaw03.RngSteps': WHATEVER THE INPUT: true; the input reads as it did. -/
def rngStepsSpec : ChangeSpec := { name := "rngSteps", fn := fun _ => fun
  | [d1, d2] => { results := [.lit (.bool true)], args := [d1, d2] }
  | _ => none }
def rngStepsRow : OpenClaim := { program := "ytdaocpkmjkegcaa", sum := "57166a621fdcbbb8e88c291591ec834a5d0eec3a66d36044eb9bb9723d4f606c", func := "zoetrope/zoetropelaw03.RngSteps", spec := "rngSteps", apart := false }
def RngStepsSaid : Prop := rngStepsRow.holds Try.pinned (OpenSpec.ofChange rngStepsSpec)

/-- ITS FALSE NEIGHBOUR: 'it returns false'. Refute it at one input. -/
def rngStepsWrong : ChangeSpec := { name := "rngSteps", fn := fun _ => fun
  | [d1, d2] => { results := [.lit (.bool false)], args := [d1, d2] }
  | _ => none }
def RngStepsWrongFalsely : Prop := rngStepsRow.holds Try.pinned (OpenSpec.ofChange rngStepsWrong)

/-- 'zoetropelaw03.RngSkips': WHATEVER THE INPUT: true; the input reads as it did. -/
def rngSkipsSpec : ChangeSpec := { name := "rngSkips", fn := fun _ => fun
  | [d1, d2] => { results := [.lit (.bool true)], args := [d1, d2] }
  | _ => none }
def rngSkipsRow : OpenClaim := { program := "ytdaocpkmjkegcaa", sum := "57166a621fdcbbb8e88c291591ec834a5d0eec3a66d36044eb9bb9723d4f606c", func := "zoetrope/zoetropelaw03.RngSkips", spec := "rngSkips", apart := false }
def RngSkipsSaid : Prop := rngSkipsRow.holds Try.pinned (OpenSpec.ofChange rngSkipsSpec)

/-- ITS FALSE NEIGHBOUR: 'it returns false'. Refute it at one input. -/
def rngSkipsWrong : ChangeSpec := { name := "rngSkips", fn := fun _ => fun
  | [d1, d2] => { results := [.lit (.bool false)], args := [d1, d2] }
  | _ => none }
def RngSkipsWrongFalsely : Prop := rngSkipsRow.holds Try.pinned (OpenSpec.ofChange rngSkipsWrong)

/-- 'zoetropelaw03.RngBack': WHATEVER THE INPUT: true; the input reads as it did. -/
def rngBackSpec : ChangeSpec := { name := "rngBack", fn := fun _ => fun
  | [d1, d2, d3] => { results := [.lit (.bool true)], args := [d1, d2, d3] }
  | _ => none }
def rngBackRow : OpenClaim := { program := "ytdaocpkmjkegcaa", sum := "57166a621fdcbbb8e88c291591ec834a5d0eec3a66d36044eb9bb9723d4f606c", func := "zoetrope/zoetropelaw03.RngBack", spec := "rngBack", apart := false }
def RngBackSaid : Prop := rngBackRow.holds Try.pinned (OpenSpec.ofChange rngBackSpec)

/-- ITS FALSE NEIGHBOUR: 'it returns false'. Refute it at one input. -/
def rngBackWrong : ChangeSpec := { name := "rngBack", fn := fun _ => fun
  | [d1, d2, d3] => { results := [.lit (.bool false)], args := [d1, d2, d3] }
  | _ => none }
def RngBackWrongFalsely : Prop := rngBackRow.holds Try.pinned (OpenSpec.ofChange rngBackWrong)

/-- 'zoetropelaw03.RngRows': WHATEVER THE INPUT: true; the input reads as it did. -/
def rngRowsSpec : ChangeSpec := { name := "rngRows", fn := fun _ => fun
  | [d1, d2, d3] => { results := [.lit (.bool true)], args := [d1, d2, d3] }
  | _ => none }
def rngRowsRow : OpenClaim := { program := "ytdaocpkmjkegcaa", sum := "57166a621fdcbbb8e88c291591ec834a5d0eec3a66d36044eb9bb9723d4f606c", func := "zoetrope/zoetropelaw03.RngRows", spec := "rngRows", apart := false }
def RngRowsSaid : Prop := rngRowsRow.holds Try.pinned (OpenSpec.ofChange rngRowsSpec)

/-- ITS FALSE NEIGHBOUR: 'it returns false'. Refute it at one input. -/
def rngRowsWrong : ChangeSpec := { name := "rngRows", fn := fun _ => fun
  | [d1, d2, d3] => { results := [.lit (.bool false)], args := [d1, d2, d3] }
  | _ => none }
def RngRowsWrongFalsely : Prop := rngRowsRow.holds Try.pinned (OpenSpec.ofChange rngRowsWrong)

/-- 'zoetropelaw03.RngStirs': WHATEVER THE INPUT: true; the input reads as it did. -/
def rngStirsSpec : ChangeSpec := { name := "rngStirs", fn := fun _ => fun
  | [d1, d2, d3] => { results := [.lit (.bool true)], args := [d1, d2, d3] }
  | _ => none }
def rngStirsRow : OpenClaim := { program := "ytdaocpkmjkegcaa", sum := "57166a621fdcbbb8e88c291591ec834a5d0eec3a66d36044eb9bb9723d4f606c", func := "zoetrope/zoetropelaw03.RngStirs", spec := "rngStirs", apart := false }
def RngStirsSaid : Prop := rngStirsRow.holds Try.pinned (OpenSpec.ofChange rngStirsSpec)

/-- ITS FALSE NEIGHBOUR: 'it returns false'. Refute it at one input. -/
def rngStirsWrong : ChangeSpec := { name := "rngStirs", fn := fun _ => fun
  | [d1, d2, d3] => { results := [.lit (.bool false)], args := [d1, d2, d3] }
  | _ => none }
def RngStirsWrongFalsely : Prop := rngStirsRow.holds Try.pinned (OpenSpec.ofChange rngStirsWrong)

/- THE SECOND FORM. 'bulk': how many values and letters a reading holds, each counted each time it is reached (what is shared counts as often as it is met; a slice's spare places count too). A statement '..UptoSaid' is the law's where the arguments, and the package variables that the reading takes, are together of bulk at most 1048576: NARROWER than '..Said'. Prove '..Said' where nothing that the law and all that it calls make is longer than what came in: it says more and counts as full. Else prove '..UptoSaid'. A law counts once. -/
mutual
def uptoBulk {H : Type} : DataW H → Nat
  | .lit (.string bytes) => bytes.length + 1
  | .lit _ => 1
  | .nil => 1
  | .ptr d => uptoBulk d + 1
  | .slice elems spare => uptoBulkAll elems + uptoBulkAll spare + 1
  | .agg parts => uptoBulkAll parts + 1
  | .iface _ d => uptoBulk d + 1
  | .map entries => uptoBulkEntries entries + 1
  | .held _ => 1
def uptoBulkAll {H : Type} : List (DataW H) → Nat
  | [] => 0
  | d :: r => uptoBulk d + uptoBulkAll r
def uptoBulkEntries {H : Type} : List (Lit × DataW H) → Nat
  | [] => 0
  | x :: r => uptoBulkEntry x + uptoBulkEntries r
def uptoBulkEntry {H : Type} : Lit × DataW H → Nat
  | (.string bytes, d) => bytes.length + uptoBulk d + 1
  | (_, d) => uptoBulk d + 1
 end
def uptoSmall : (H : Type) → List (DataW H) → Bool := fun _ ds => decide (uptoBulkAll ds ≤ 1048576)
def OpenSpec.upto (s : _root_.Go.ChangeSpec) : _root_.Go.OpenSpec := { _root_.Go.OpenSpec.ofChange s with cond := some uptoSmall }

/-- 'zoetropelaw03.RngSeeds', WHERE WHAT IT READS IS OF BULK AT MOST 1048576: true; the input reads as it did. -/
def rngSeedsUptoRow : OpenClaim := { program := "ytdaocpkmjkegcaa", sum := "57166a621fdcbbb8e88c291591ec834a5d0eec3a66d36044eb9bb9723d4f606c", func := "zoetrope/zoetropelaw03.RngSeeds", spec := "rngSeeds", apart := false, narrowed := true }
def RngSeedsUptoSaid : Prop := rngSeedsUptoRow.holds Try.pinned (OpenSpec.upto rngSeedsSpec)

/-- 'zoetropelaw03.RngSteps', WHERE WHAT IT READS IS OF BULK AT MOST 1048576: true; the input reads as it did. -/
def rngStepsUptoRow : OpenClaim := { program := "ytdaocpkmjkegcaa", sum := "57166a621fdcbbb8e88c291591ec834a5d0eec3a66d36044eb9bb9723d4f606c", func := "zoetrope/zoetropelaw03.RngSteps", spec := "rngSteps", apart := false, narrowed := true }
def RngStepsUptoSaid : Prop := rngStepsUptoRow.holds Try.pinned (OpenSpec.upto rngStepsSpec)

/-- 'zoetropelaw03.RngSkips', WHERE WHAT IT READS IS OF BULK AT MOST 1048576: true; the input reads as it did. -/
def rngSkipsUptoRow : OpenClaim := { program := "ytdaocpkmjkegcaa", sum := "57166a621fdcbbb8e88c291591ec834a5d0eec3a66d36044eb9bb9723d4f606c", func := "zoetrope/zoetropelaw03.RngSkips", spec := "rngSkips", apart := false, narrowed := true }
def RngSkipsUptoSaid : Prop := rngSkipsUptoRow.holds Try.pinned (OpenSpec.upto rngSkipsSpec)

/-- 'zoetropelaw03.RngBack', WHERE WHAT IT READS IS OF BULK AT MOST 1048576: true; the input reads as it did. -/
def rngBackUptoRow : OpenClaim := { program := "ytdaocpkmjkegcaa", sum := "57166a621fdcbbb8e88c291591ec834a5d0eec3a66d36044eb9bb9723d4f606c", func := "zoetrope/zoetropelaw03.RngBack", spec := "rngBack", apart := false, narrowed := true }
def RngBackUptoSaid : Prop := rngBackUptoRow.holds Try.pinned (OpenSpec.upto rngBackSpec)

/-- 'zoetropelaw03.RngRows', WHERE WHAT IT READS IS OF BULK AT MOST 1048576: true; the input reads as it did. -/
def rngRowsUptoRow : OpenClaim := { program := "ytdaocpkmjkegcaa", sum := "57166a621fdcbbb8e88c291591ec834a5d0eec3a66d36044eb9bb9723d4f606c", func := "zoetrope/zoetropelaw03.RngRows", spec := "rngRows", apart := false, narrowed := true }
def RngRowsUptoSaid : Prop := rngRowsUptoRow.holds Try.pinned (OpenSpec.upto rngRowsSpec)

/-- 'zoetropelaw03.RngStirs', WHERE WHAT IT READS IS OF BULK AT MOST 1048576: true; the input reads as it did. -/
def rngStirsUptoRow : OpenClaim := { program := "ytdaocpkmjkegcaa", sum := "57166a621fdcbbb8e88c291591ec834a5d0eec3a66d36044eb9bb9723d4f606c", func := "zoetrope/zoetropelaw03.RngStirs", spec := "rngStirs", apart := false, narrowed := true }
def RngStirsUptoSaid : Prop := rngStirsUptoRow.holds Try.pinned (OpenSpec.upto rngStirsSpec)

end Rows
end Go.Proofs.Ytdaocpkmjkegcaa
