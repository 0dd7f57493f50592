/-
  No cell of these rows narrows 'for every input' (looked for: loops, veiled, ifaces, maps, wideKeys, modest, calm, conditions, laid).
  DERIVED. THE GIVEN ROWS OF THIS SEAT. 6 by the template 'for every input the law returns true; each argument reads behind the call as it read before'; 0 by the template 'total and deterministic' (their statements: YtmhdapjmndfkgaaGreatTotals.lean).
  GIVEN WITH THE SEED: the statements are not yours to turn. If you find one false, say at which input.
  Laid BY PROGRAM, IN A SANDBOX (cutbox-rows.mjs): the forced cells as the released guide's own fill.sh prints them over the translation 9572f4cc5d4cd1f5… (all of the seat's roots in one cut). By AI agents, Wed Nov 11 2026. No macro, syntax, notation, axiom, sorry.
-/
import Derived.Test.YtmhdapjmndfkgaaGreatChecked
import GoSem.Claim
import GoSem.ClaimJoined
import GoSem.ClaimMapViews
import Derived.JoinedTies
import Derived.KernelRfl
namespace Go.Proofs.YtmhdapjmndfkgaaGreat
/- THE CELL 'sum', in the pinned program and in every row, IS THE sha256 OF THE DUMP (.gsa) THAT YtmhdapjmndfkgaaGreatProg.lean LOADS. Nothing in Lean hashes anything: it is a label: what it is worth is what the hold of that sum in a sandbox is worth. -/
noncomputable def Tryz.pinned : Pinned := { name := "ytmhdapjmndfkgaagreat", sum := "9572f4cc5d4cd1f5ef9c5317754d4c26529682047975a51c72382a7a3b5f430b", checked := Tryz.checked }
namespace Rows
def none {H : Type} : Left H := { results := [], args := [] }

/-- 'ecdysislaw15.SchemaChecks': WHATEVER THE INPUT: true; the input reads as it did. -/
def schemaChecksSpec : ChangeSpec := { name := "schemaChecks", fn := fun _ => fun
  | [d] => { results := [.lit (.bool true)], args := [d] }
  | _ => none }
def schemaChecksRow : OpenClaim := { program := "ytmhdapjmndfkgaagreat", sum := "9572f4cc5d4cd1f5ef9c5317754d4c26529682047975a51c72382a7a3b5f430b", func := "ecdysis/ecdysislaw15.SchemaChecks", spec := "schemaChecks", unfollowed := true, recurses := true, apart := false }
def SchemaChecksSaid : Prop := schemaChecksRow.holds Tryz.pinned (OpenSpec.ofChange schemaChecksSpec)

/-- ITS FALSE NEIGHBOUR: 'it returns false'. Refute it at one input. -/
def schemaChecksWrong : ChangeSpec := { name := "schemaChecks", fn := fun _ => fun
  | [d] => { results := [.lit (.bool false)], args := [d] }
  | _ => none }
def SchemaChecksWrongFalsely : Prop := schemaChecksRow.holds Tryz.pinned (OpenSpec.ofChange schemaChecksWrong)

/-- 'ecdysislaw15.SchemaSame': WHATEVER THE INPUT: true; the input reads as it did. -/
def schemaSameSpec : ChangeSpec := { name := "schemaSame", fn := fun _ => fun
  | [d1, d2] => { results := [.lit (.bool true)], args := [d1, d2] }
  | _ => none }
def schemaSameRow : OpenClaim := { program := "ytmhdapjmndfkgaagreat", sum := "9572f4cc5d4cd1f5ef9c5317754d4c26529682047975a51c72382a7a3b5f430b", func := "ecdysis/ecdysislaw15.SchemaSame", spec := "schemaSame", unfollowed := true, recurses := true, apart := false }
def SchemaSameSaid : Prop := schemaSameRow.holds Tryz.pinned (OpenSpec.ofChange schemaSameSpec)

/-- ITS FALSE NEIGHBOUR: 'it returns false'. Refute it at one input. -/
def schemaSameWrong : ChangeSpec := { name := "schemaSame", fn := fun _ => fun
  | [d1, d2] => { results := [.lit (.bool false)], args := [d1, d2] }
  | _ => none }
def SchemaSameWrongFalsely : Prop := schemaSameRow.holds Tryz.pinned (OpenSpec.ofChange schemaSameWrong)

/-- 'ecdysislaw46.SampleDraws': WHATEVER THE INPUT: true; the input reads as it did. -/
def sampleDrawsSpec : ChangeSpec := { name := "sampleDraws", fn := fun _ => fun
  | [d1, d2, d3] => { results := [.lit (.bool true)], args := [d1, d2, d3] }
  | _ => none }
def sampleDrawsRow : OpenClaim := { program := "ytmhdapjmndfkgaagreat", sum := "9572f4cc5d4cd1f5ef9c5317754d4c26529682047975a51c72382a7a3b5f430b", func := "ecdysis/ecdysislaw46.SampleDraws", spec := "sampleDraws", unfollowed := true, recurses := true, apart := false }
def SampleDrawsSaid : Prop := sampleDrawsRow.holds Tryz.pinned (OpenSpec.ofChange sampleDrawsSpec)

/-- ITS FALSE NEIGHBOUR: 'it returns false'. Refute it at one input. -/
def sampleDrawsWrong : ChangeSpec := { name := "sampleDraws", fn := fun _ => fun
  | [d1, d2, d3] => { results := [.lit (.bool false)], args := [d1, d2, d3] }
  | _ => none }
def SampleDrawsWrongFalsely : Prop := sampleDrawsRow.holds Tryz.pinned (OpenSpec.ofChange sampleDrawsWrong)

/-- 'ecdysislaw48.DiffTells': WHATEVER THE INPUT: true; the input reads as it did. -/
def diffTellsSpec : ChangeSpec := { name := "diffTells", fn := fun _ => fun
  | [d1, d2] => { results := [.lit (.bool true)], args := [d1, d2] }
  | _ => none }
def diffTellsRow : OpenClaim := { program := "ytmhdapjmndfkgaagreat", sum := "9572f4cc5d4cd1f5ef9c5317754d4c26529682047975a51c72382a7a3b5f430b", func := "ecdysis/ecdysislaw48.DiffTells", spec := "diffTells", unfollowed := true, recurses := true, apart := false }
def DiffTellsSaid : Prop := diffTellsRow.holds Tryz.pinned (OpenSpec.ofChange diffTellsSpec)

/-- ITS FALSE NEIGHBOUR: 'it returns false'. Refute it at one input. -/
def diffTellsWrong : ChangeSpec := { name := "diffTells", fn := fun _ => fun
  | [d1, d2] => { results := [.lit (.bool false)], args := [d1, d2] }
  | _ => none }
def DiffTellsWrongFalsely : Prop := diffTellsRow.holds Tryz.pinned (OpenSpec.ofChange diffTellsWrong)

/-- 'ecdysislaw48.DiffNone': WHATEVER THE INPUT: true; the input reads as it did. -/
def diffNoneSpec : ChangeSpec := { name := "diffNone", fn := fun _ => fun
  | [d1, d2] => { results := [.lit (.bool true)], args := [d1, d2] }
  | _ => none }
def diffNoneRow : OpenClaim := { program := "ytmhdapjmndfkgaagreat", sum := "9572f4cc5d4cd1f5ef9c5317754d4c26529682047975a51c72382a7a3b5f430b", func := "ecdysis/ecdysislaw48.DiffNone", spec := "diffNone", unfollowed := true, recurses := true, apart := false }
def DiffNoneSaid : Prop := diffNoneRow.holds Tryz.pinned (OpenSpec.ofChange diffNoneSpec)

/-- ITS FALSE NEIGHBOUR: 'it returns false'. Refute it at one input. -/
def diffNoneWrong : ChangeSpec := { name := "diffNone", fn := fun _ => fun
  | [d1, d2] => { results := [.lit (.bool false)], args := [d1, d2] }
  | _ => none }
def DiffNoneWrongFalsely : Prop := diffNoneRow.holds Tryz.pinned (OpenSpec.ofChange diffNoneWrong)

/-- 'ecdysislaw48.DiffTurns': WHATEVER THE INPUT: true; the input reads as it did. -/
def diffTurnsSpec : ChangeSpec := { name := "diffTurns", fn := fun _ => fun
  | [d1, d2] => { results := [.lit (.bool true)], args := [d1, d2] }
  | _ => none }
def diffTurnsRow : OpenClaim := { program := "ytmhdapjmndfkgaagreat", sum := "9572f4cc5d4cd1f5ef9c5317754d4c26529682047975a51c72382a7a3b5f430b", func := "ecdysis/ecdysislaw48.DiffTurns", spec := "diffTurns", unfollowed := true, recurses := true, apart := false }
def DiffTurnsSaid : Prop := diffTurnsRow.holds Tryz.pinned (OpenSpec.ofChange diffTurnsSpec)

/-- ITS FALSE NEIGHBOUR: 'it returns false'. Refute it at one input. -/
def diffTurnsWrong : ChangeSpec := { name := "diffTurns", fn := fun _ => fun
  | [d1, d2] => { results := [.lit (.bool false)], args := [d1, d2] }
  | _ => none }
def DiffTurnsWrongFalsely : Prop := diffTurnsRow.holds Tryz.pinned (OpenSpec.ofChange diffTurnsWrong)

/- THE SECOND FORM. 'bulk': how many values and letters a reading holds, each counted each time it is reached (what is shared counts as often as it is met; a slice's spare places count too). A statement '..UptoSaid' is the law's where the arguments, and the package variables that the reading takes, are together of bulk at most 1048576: NARROWER than '..Said'. Prove '..Said' where nothing that the law and all that it calls make is longer than what came in: it says more and counts as full. Else prove '..UptoSaid'. A law counts once. -/
mutual
def uptoBulk {H : Type} : DataW H → Nat
  | .lit (.string bytes) => bytes.length + 1
  | .lit _ => 1
  | .nil => 1
  | .ptr d => uptoBulk d + 1
  | .slice elems spare => uptoBulkAll elems + uptoBulkAll spare + 1
  | .agg parts => uptoBulkAll parts + 1
  | .iface _ d => uptoBulk d + 1
  | .map entries => uptoBulkEntries entries + 1
  | .held _ => 1
def uptoBulkAll {H : Type} : List (DataW H) → Nat
  | [] => 0
  | d :: r => uptoBulk d + uptoBulkAll r
def uptoBulkEntries {H : Type} : List (Lit × DataW H) → Nat
  | [] => 0
  | x :: r => uptoBulkEntry x + uptoBulkEntries r
def uptoBulkEntry {H : Type} : Lit × DataW H → Nat
  | (.string bytes, d) => bytes.length + uptoBulk d + 1
  | (_, d) => uptoBulk d + 1
 end
def uptoSmall : (H : Type) → List (DataW H) → Bool := fun _ ds => decide (uptoBulkAll ds ≤ 1048576)
def OpenSpec.upto (s : _root_.Go.ChangeSpec) : _root_.Go.OpenSpec := { _root_.Go.OpenSpec.ofChange s with cond := some uptoSmall }

/-- 'ecdysislaw15.SchemaChecks', WHERE WHAT IT READS IS OF BULK AT MOST 1048576: true; the input reads as it did. -/
def schemaChecksUptoRow : OpenClaim := { program := "ytmhdapjmndfkgaagreat", sum := "9572f4cc5d4cd1f5ef9c5317754d4c26529682047975a51c72382a7a3b5f430b", func := "ecdysis/ecdysislaw15.SchemaChecks", spec := "schemaChecks", unfollowed := true, recurses := true, apart := false, narrowed := true }
def SchemaChecksUptoSaid : Prop := schemaChecksUptoRow.holds Tryz.pinned (OpenSpec.upto schemaChecksSpec)

/-- 'ecdysislaw15.SchemaSame', WHERE WHAT IT READS IS OF BULK AT MOST 1048576: true; the input reads as it did. -/
def schemaSameUptoRow : OpenClaim := { program := "ytmhdapjmndfkgaagreat", sum := "9572f4cc5d4cd1f5ef9c5317754d4c26529682047975a51c72382a7a3b5f430b", func := "ecdysis/ecdysislaw15.SchemaSame", spec := "schemaSame", unfollowed := true, recurses := true, apart := false, narrowed := true }
def SchemaSameUptoSaid : Prop := schemaSameUptoRow.holds Tryz.pinned (OpenSpec.upto schemaSameSpec)

/-- 'ecdysislaw46.SampleDraws', WHERE WHAT IT READS IS OF BULK AT MOST 1048576: true; the input reads as it did. -/
def sampleDrawsUptoRow : OpenClaim := { program := "ytmhdapjmndfkgaagreat", sum := "9572f4cc5d4cd1f5ef9c5317754d4c26529682047975a51c72382a7a3b5f430b", func := "ecdysis/ecdysislaw46.SampleDraws", spec := "sampleDraws", unfollowed := true, recurses := true, apart := false, narrowed := true }
def SampleDrawsUptoSaid : Prop := sampleDrawsUptoRow.holds Tryz.pinned (OpenSpec.upto sampleDrawsSpec)

/-- 'ecdysislaw48.DiffTells', WHERE WHAT IT READS IS OF BULK AT MOST 1048576: true; the input reads as it did. -/
def diffTellsUptoRow : OpenClaim := { program := "ytmhdapjmndfkgaagreat", sum := "9572f4cc5d4cd1f5ef9c5317754d4c26529682047975a51c72382a7a3b5f430b", func := "ecdysis/ecdysislaw48.DiffTells", spec := "diffTells", unfollowed := true, recurses := true, apart := false, narrowed := true }
def DiffTellsUptoSaid : Prop := diffTellsUptoRow.holds Tryz.pinned (OpenSpec.upto diffTellsSpec)

/-- 'ecdysislaw48.DiffNone', WHERE WHAT IT READS IS OF BULK AT MOST 1048576: true; the input reads as it did. -/
def diffNoneUptoRow : OpenClaim := { program := "ytmhdapjmndfkgaagreat", sum := "9572f4cc5d4cd1f5ef9c5317754d4c26529682047975a51c72382a7a3b5f430b", func := "ecdysis/ecdysislaw48.DiffNone", spec := "diffNone", unfollowed := true, recurses := true, apart := false, narrowed := true }
def DiffNoneUptoSaid : Prop := diffNoneUptoRow.holds Tryz.pinned (OpenSpec.upto diffNoneSpec)

/-- 'ecdysislaw48.DiffTurns', WHERE WHAT IT READS IS OF BULK AT MOST 1048576: true; the input reads as it did. -/
def diffTurnsUptoRow : OpenClaim := { program := "ytmhdapjmndfkgaagreat", sum := "9572f4cc5d4cd1f5ef9c5317754d4c26529682047975a51c72382a7a3b5f430b", func := "ecdysis/ecdysislaw48.DiffTurns", spec := "diffTurns", unfollowed := true, recurses := true, apart := false, narrowed := true }
def DiffTurnsUptoSaid : Prop := diffTurnsUptoRow.holds Tryz.pinned (OpenSpec.upto diffTurnsSpec)

end Rows
end Go.Proofs.YtmhdapjmndfkgaaGreat
