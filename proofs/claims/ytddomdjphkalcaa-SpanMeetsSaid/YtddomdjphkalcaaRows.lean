/-
  No cell of these rows narrows 'for every input' (looked for: loops, veiled, ifaces, maps, wideKeys, modest, calm, conditions, laid).
  DERIVED. THE GIVEN ROWS OF THIS SEAT. 11 by the template 'for every input the law returns true; each argument reads behind the call as it read before'; 0 by the template 'total and deterministic' (their statements: YtddomdjphkalcaaTotals.lean).
  GIVEN WITH THE SEED: the statements are not yours to turn. If you find one false, say at which input.
  Laid BY PROGRAM, IN A SANDBOX (cutbox-rows.mjs): the forced cells as the released guide's own fill.sh prints them over the translation b372ac6725b17a15… (all of the seat's roots in one cut). By AI agents, Wed Nov 11 2026. No macro, syntax, notation, axiom, sorry.
-/
import Derived.Test.YtddomdjphkalcaaChecked
import GoSem.Claim
import GoSem.ClaimJoined
import GoSem.ClaimMapViews
import Derived.JoinedTies
import Derived.KernelRfl
namespace Go.Proofs.Ytddomdjphkalcaa
/- THE CELL 'sum', in the pinned program and in every row, IS THE sha256 OF THE DUMP (.gsa) THAT YtddomdjphkalcaaProg.lean LOADS. Nothing in Lean hashes anything: it is a label: what it is worth is what the hold of that sum in a sandbox is worth. -/
noncomputable def Try.pinned : Pinned := { name := "ytddomdjphkalcaa", sum := "b372ac6725b17a158c5b8d3b2418b7b52abda845665096ae34f025860bb50df6", checked := Try.checked }
namespace Rows
def none {H : Type} : Left H := { results := [], args := [] }

/-- 'ecdysislaw46.SampleNext': WHATEVER THE INPUT: true; the input reads as it did. -/
def sampleNextSpec : ChangeSpec := { name := "sampleNext", fn := fun _ => fun
  | [d1, d2] => { results := [.lit (.bool true)], args := [d1, d2] }
  | _ => none }
def sampleNextRow : OpenClaim := { program := "ytddomdjphkalcaa", sum := "b372ac6725b17a158c5b8d3b2418b7b52abda845665096ae34f025860bb50df6", func := "ecdysis/ecdysislaw46.SampleNext", spec := "sampleNext", apart := false }
def SampleNextSaid : Prop := sampleNextRow.holds Try.pinned (OpenSpec.ofChange sampleNextSpec)

/-- ITS FALSE NEIGHBOUR: 'it returns false'. Refute it at one input. -/
def sampleNextWrong : ChangeSpec := { name := "sampleNext", fn := fun _ => fun
  | [d1, d2] => { results := [.lit (.bool false)], args := [d1, d2] }
  | _ => none }
def SampleNextWrongFalsely : Prop := sampleNextRow.holds Try.pinned (OpenSpec.ofChange sampleNextWrong)

/-- 'ecdysislaw09.IdentRight': WHATEVER THE INPUT: true; the input reads as it did. -/
def identRightSpec : ChangeSpec := { name := "identRight", fn := fun _ => fun
  | [d] => { results := [.lit (.bool true)], args := [d] }
  | _ => none }
def identRightRow : OpenClaim := { program := "ytddomdjphkalcaa", sum := "b372ac6725b17a158c5b8d3b2418b7b52abda845665096ae34f025860bb50df6", func := "ecdysis/ecdysislaw09.IdentRight", spec := "identRight", apart := false }
def IdentRightSaid : Prop := identRightRow.holds Try.pinned (OpenSpec.ofChange identRightSpec)

/-- ITS FALSE NEIGHBOUR: 'it returns false'. Refute it at one input. -/
def identRightWrong : ChangeSpec := { name := "identRight", fn := fun _ => fun
  | [d] => { results := [.lit (.bool false)], args := [d] }
  | _ => none }
def IdentRightWrongFalsely : Prop := identRightRow.holds Try.pinned (OpenSpec.ofChange identRightWrong)

/-- 'ecdysislaw12.NumFrom': WHATEVER THE INPUT: true; the input reads as it did. -/
def numFromSpec : ChangeSpec := { name := "numFrom", fn := fun _ => fun
  | [d1, d2] => { results := [.lit (.bool true)], args := [d1, d2] }
  | _ => none }
def numFromRow : OpenClaim := { program := "ytddomdjphkalcaa", sum := "b372ac6725b17a158c5b8d3b2418b7b52abda845665096ae34f025860bb50df6", func := "ecdysis/ecdysislaw12.NumFrom", spec := "numFrom", unfollowed := true, recurses := true, apart := false }
def NumFromSaid : Prop := numFromRow.holds Try.pinned (OpenSpec.ofChange numFromSpec)

/-- ITS FALSE NEIGHBOUR: 'it returns false'. Refute it at one input. -/
def numFromWrong : ChangeSpec := { name := "numFrom", fn := fun _ => fun
  | [d1, d2] => { results := [.lit (.bool false)], args := [d1, d2] }
  | _ => none }
def NumFromWrongFalsely : Prop := numFromRow.holds Try.pinned (OpenSpec.ofChange numFromWrong)

/-- 'ecdysislaw12.NumBack': WHATEVER THE INPUT: true; the input reads as it did. -/
def numBackSpec : ChangeSpec := { name := "numBack", fn := fun _ => fun
  | [d1, d2] => { results := [.lit (.bool true)], args := [d1, d2] }
  | _ => none }
def numBackRow : OpenClaim := { program := "ytddomdjphkalcaa", sum := "b372ac6725b17a158c5b8d3b2418b7b52abda845665096ae34f025860bb50df6", func := "ecdysis/ecdysislaw12.NumBack", spec := "numBack", unfollowed := true, recurses := true, apart := false }
def NumBackSaid : Prop := numBackRow.holds Try.pinned (OpenSpec.ofChange numBackSpec)

/-- ITS FALSE NEIGHBOUR: 'it returns false'. Refute it at one input. -/
def numBackWrong : ChangeSpec := { name := "numBack", fn := fun _ => fun
  | [d1, d2] => { results := [.lit (.bool false)], args := [d1, d2] }
  | _ => none }
def NumBackWrongFalsely : Prop := numBackRow.holds Try.pinned (OpenSpec.ofChange numBackWrong)

/-- 'ecdysislaw12.NumShort': WHATEVER THE INPUT: true; the input reads as it did. -/
def numShortSpec : ChangeSpec := { name := "numShort", fn := fun _ => fun
  | [d1, d2, d3] => { results := [.lit (.bool true)], args := [d1, d2, d3] }
  | _ => none }
def numShortRow : OpenClaim := { program := "ytddomdjphkalcaa", sum := "b372ac6725b17a158c5b8d3b2418b7b52abda845665096ae34f025860bb50df6", func := "ecdysis/ecdysislaw12.NumShort", spec := "numShort", unfollowed := true, recurses := true, apart := false }
def NumShortSaid : Prop := numShortRow.holds Try.pinned (OpenSpec.ofChange numShortSpec)

/-- ITS FALSE NEIGHBOUR: 'it returns false'. Refute it at one input. -/
def numShortWrong : ChangeSpec := { name := "numShort", fn := fun _ => fun
  | [d1, d2, d3] => { results := [.lit (.bool false)], args := [d1, d2, d3] }
  | _ => none }
def NumShortWrongFalsely : Prop := numShortRow.holds Try.pinned (OpenSpec.ofChange numShortWrong)

/-- 'ecdysislaw32.SpanOf': WHATEVER THE INPUT: true; the input reads as it did. -/
def spanOfSpec : ChangeSpec := { name := "spanOf", fn := fun _ => fun
  | [d1, d2, d3] => { results := [.lit (.bool true)], args := [d1, d2, d3] }
  | _ => none }
def spanOfRow : OpenClaim := { program := "ytddomdjphkalcaa", sum := "b372ac6725b17a158c5b8d3b2418b7b52abda845665096ae34f025860bb50df6", func := "ecdysis/ecdysislaw32.SpanOf", spec := "spanOf", apart := false }
def SpanOfSaid : Prop := spanOfRow.holds Try.pinned (OpenSpec.ofChange spanOfSpec)

/-- ITS FALSE NEIGHBOUR: 'it returns false'. Refute it at one input. -/
def spanOfWrong : ChangeSpec := { name := "spanOf", fn := fun _ => fun
  | [d1, d2, d3] => { results := [.lit (.bool false)], args := [d1, d2, d3] }
  | _ => none }
def SpanOfWrongFalsely : Prop := spanOfRow.holds Try.pinned (OpenSpec.ofChange spanOfWrong)

/-- 'ecdysislaw32.SpanTells': WHATEVER THE INPUT: true; the input reads as it did. -/
def spanTellsSpec : ChangeSpec := { name := "spanTells", fn := fun _ => fun
  | [d1, d2, d3] => { results := [.lit (.bool true)], args := [d1, d2, d3] }
  | _ => none }
def spanTellsRow : OpenClaim := { program := "ytddomdjphkalcaa", sum := "b372ac6725b17a158c5b8d3b2418b7b52abda845665096ae34f025860bb50df6", func := "ecdysis/ecdysislaw32.SpanTells", spec := "spanTells", apart := false }
def SpanTellsSaid : Prop := spanTellsRow.holds Try.pinned (OpenSpec.ofChange spanTellsSpec)

/-- ITS FALSE NEIGHBOUR: 'it returns false'. Refute it at one input. -/
def spanTellsWrong : ChangeSpec := { name := "spanTells", fn := fun _ => fun
  | [d1, d2, d3] => { results := [.lit (.bool false)], args := [d1, d2, d3] }
  | _ => none }
def SpanTellsWrongFalsely : Prop := spanTellsRow.holds Try.pinned (OpenSpec.ofChange spanTellsWrong)

/-- 'ecdysislaw32.SpanMeets': WHATEVER THE INPUT: true; the input reads as it did. -/
def spanMeetsSpec : ChangeSpec := { name := "spanMeets", fn := fun _ => fun
  | [d1, d2] => { results := [.lit (.bool true)], args := [d1, d2] }
  | _ => none }
def spanMeetsRow : OpenClaim := { program := "ytddomdjphkalcaa", sum := "b372ac6725b17a158c5b8d3b2418b7b52abda845665096ae34f025860bb50df6", func := "ecdysis/ecdysislaw32.SpanMeets", spec := "spanMeets", apart := false }
def SpanMeetsSaid : Prop := spanMeetsRow.holds Try.pinned (OpenSpec.ofChange spanMeetsSpec)

/-- ITS FALSE NEIGHBOUR: 'it returns false'. Refute it at one input. -/
def spanMeetsWrong : ChangeSpec := { name := "spanMeets", fn := fun _ => fun
  | [d1, d2] => { results := [.lit (.bool false)], args := [d1, d2] }
  | _ => none }
def SpanMeetsWrongFalsely : Prop := spanMeetsRow.holds Try.pinned (OpenSpec.ofChange spanMeetsWrong)

/-- 'ecdysislaw11.ScalarWords': WHATEVER THE INPUT: true; the input reads as it did. -/
def scalarWordsSpec : ChangeSpec := { name := "scalarWords", fn := fun _ => fun
  | [d] => { results := [.lit (.bool true)], args := [d] }
  | _ => none }
def scalarWordsRow : OpenClaim := { program := "ytddomdjphkalcaa", sum := "b372ac6725b17a158c5b8d3b2418b7b52abda845665096ae34f025860bb50df6", func := "ecdysis/ecdysislaw11.ScalarWords", spec := "scalarWords", apart := false }
def ScalarWordsSaid : Prop := scalarWordsRow.holds Try.pinned (OpenSpec.ofChange scalarWordsSpec)

/-- ITS FALSE NEIGHBOUR: 'it returns false'. Refute it at one input. -/
def scalarWordsWrong : ChangeSpec := { name := "scalarWords", fn := fun _ => fun
  | [d] => { results := [.lit (.bool false)], args := [d] }
  | _ => none }
def ScalarWordsWrongFalsely : Prop := scalarWordsRow.holds Try.pinned (OpenSpec.ofChange scalarWordsWrong)

/-- 'ecdysislaw11.ScalarTypes': WHATEVER THE INPUT: true; the input reads as it did. -/
def scalarTypesSpec : ChangeSpec := { name := "scalarTypes", fn := fun _ => fun
  | [d1, d2] => { results := [.lit (.bool true)], args := [d1, d2] }
  | _ => none }
def scalarTypesRow : OpenClaim := { program := "ytddomdjphkalcaa", sum := "b372ac6725b17a158c5b8d3b2418b7b52abda845665096ae34f025860bb50df6", func := "ecdysis/ecdysislaw11.ScalarTypes", spec := "scalarTypes", apart := false }
def ScalarTypesSaid : Prop := scalarTypesRow.holds Try.pinned (OpenSpec.ofChange scalarTypesSpec)

/-- ITS FALSE NEIGHBOUR: 'it returns false'. Refute it at one input. -/
def scalarTypesWrong : ChangeSpec := { name := "scalarTypes", fn := fun _ => fun
  | [d1, d2] => { results := [.lit (.bool false)], args := [d1, d2] }
  | _ => none }
def ScalarTypesWrongFalsely : Prop := scalarTypesRow.holds Try.pinned (OpenSpec.ofChange scalarTypesWrong)

/-- 'ecdysislaw11.ScalarAll': WHATEVER THE INPUT: true; the input reads as it did. -/
def scalarAllSpec : ChangeSpec := { name := "scalarAll", fn := fun _ => fun
  | [d] => { results := [.lit (.bool true)], args := [d] }
  | _ => none }
def scalarAllRow : OpenClaim := { program := "ytddomdjphkalcaa", sum := "b372ac6725b17a158c5b8d3b2418b7b52abda845665096ae34f025860bb50df6", func := "ecdysis/ecdysislaw11.ScalarAll", spec := "scalarAll", apart := false }
def ScalarAllSaid : Prop := scalarAllRow.holds Try.pinned (OpenSpec.ofChange scalarAllSpec)

/-- ITS FALSE NEIGHBOUR: 'it returns false'. Refute it at one input. -/
def scalarAllWrong : ChangeSpec := { name := "scalarAll", fn := fun _ => fun
  | [d] => { results := [.lit (.bool false)], args := [d] }
  | _ => none }
def ScalarAllWrongFalsely : Prop := scalarAllRow.holds Try.pinned (OpenSpec.ofChange scalarAllWrong)

/- THE SECOND FORM. 'bulk': how many values and letters a reading holds, each counted each time it is reached (what is shared counts as often as it is met; a slice's spare places count too). A statement '..UptoSaid' is the law's where the arguments, and the package variables that the reading takes, are together of bulk at most 1048576: NARROWER than '..Said'. Prove '..Said' where nothing that the law and all that it calls make is longer than what came in: it says more and counts as full. Else prove '..UptoSaid'. A law counts once. -/
mutual
def uptoBulk {H : Type} : DataW H → Nat
  | .lit (.string bytes) => bytes.length + 1
  | .lit _ => 1
  | .nil => 1
  | .ptr d => uptoBulk d + 1
  | .slice elems spare => uptoBulkAll elems + uptoBulkAll spare + 1
  | .agg parts => uptoBulkAll parts + 1
  | .iface _ d => uptoBulk d + 1
  | .map entries => uptoBulkEntries entries + 1
  | .held _ => 1
def uptoBulkAll {H : Type} : List (DataW H) → Nat
  | [] => 0
  | d :: r => uptoBulk d + uptoBulkAll r
def uptoBulkEntries {H : Type} : List (Lit × DataW H) → Nat
  | [] => 0
  | x :: r => uptoBulkEntry x + uptoBulkEntries r
def uptoBulkEntry {H : Type} : Lit × DataW H → Nat
  | (.string bytes, d) => bytes.length + uptoBulk d + 1
  | (_, d) => uptoBulk d + 1
 end
def uptoSmall : (H : Type) → List (DataW H) → Bool := fun _ ds => decide (uptoBulkAll ds ≤ 1048576)
def OpenSpec.upto (s : _root_.Go.ChangeSpec) : _root_.Go.OpenSpec := { _root_.Go.OpenSpec.ofChange s with cond := some uptoSmall }

/-- 'ecdysislaw46.SampleNext', WHERE WHAT IT READS IS OF BULK AT MOST 1048576: true; the input reads as it did. -/
def sampleNextUptoRow : OpenClaim := { program := "ytddomdjphkalcaa", sum := "b372ac6725b17a158c5b8d3b2418b7b52abda845665096ae34f025860bb50df6", func := "ecdysis/ecdysislaw46.SampleNext", spec := "sampleNext", apart := false, narrowed := true }
def SampleNextUptoSaid : Prop := sampleNextUptoRow.holds Try.pinned (OpenSpec.upto sampleNextSpec)

/-- 'ecdysislaw09.IdentRight', WHERE WHAT IT READS IS OF BULK AT MOST 1048576: true; the input reads as it did. -/
def identRightUptoRow : OpenClaim := { program := "ytddomdjphkalcaa", sum := "b372ac6725b17a158c5b8d3b2418b7b52abda845665096ae34f025860bb50df6", func := "ecdysis/ecdysislaw09.IdentRight", spec := "identRight", apart := false, narrowed := true }
def IdentRightUptoSaid : Prop := identRightUptoRow.holds Try.pinned (OpenSpec.upto identRightSpec)

/-- 'ecdysislaw12.NumFrom', WHERE WHAT IT READS IS OF BULK AT MOST 1048576: true; the input reads as it did. -/
def numFromUptoRow : OpenClaim := { program := "ytddomdjphkalcaa", sum := "b372ac6725b17a158c5b8d3b2418b7b52abda845665096ae34f025860bb50df6", func := "ecdysis/ecdysislaw12.NumFrom", spec := "numFrom", unfollowed := true, recurses := true, apart := false, narrowed := true }
def NumFromUptoSaid : Prop := numFromUptoRow.holds Try.pinned (OpenSpec.upto numFromSpec)

/-- 'ecdysislaw12.NumBack', WHERE WHAT IT READS IS OF BULK AT MOST 1048576: true; the input reads as it did. -/
def numBackUptoRow : OpenClaim := { program := "ytddomdjphkalcaa", sum := "b372ac6725b17a158c5b8d3b2418b7b52abda845665096ae34f025860bb50df6", func := "ecdysis/ecdysislaw12.NumBack", spec := "numBack", unfollowed := true, recurses := true, apart := false, narrowed := true }
def NumBackUptoSaid : Prop := numBackUptoRow.holds Try.pinned (OpenSpec.upto numBackSpec)

/-- 'ecdysislaw12.NumShort', WHERE WHAT IT READS IS OF BULK AT MOST 1048576: true; the input reads as it did. -/
def numShortUptoRow : OpenClaim := { program := "ytddomdjphkalcaa", sum := "b372ac6725b17a158c5b8d3b2418b7b52abda845665096ae34f025860bb50df6", func := "ecdysis/ecdysislaw12.NumShort", spec := "numShort", unfollowed := true, recurses := true, apart := false, narrowed := true }
def NumShortUptoSaid : Prop := numShortUptoRow.holds Try.pinned (OpenSpec.upto numShortSpec)

/-- 'ecdysislaw32.SpanOf', WHERE WHAT IT READS IS OF BULK AT MOST 1048576: true; the input reads as it did. -/
def spanOfUptoRow : OpenClaim := { program := "ytddomdjphkalcaa", sum := "b372ac6725b17a158c5b8d3b2418b7b52abda845665096ae34f025860bb50df6", func := "ecdysis/ecdysislaw32.SpanOf", spec := "spanOf", apart := false, narrowed := true }
def SpanOfUptoSaid : Prop := spanOfUptoRow.holds Try.pinned (OpenSpec.upto spanOfSpec)

/-- 'ecdysislaw32.SpanTells', WHERE WHAT IT READS IS OF BULK AT MOST 1048576: true; the input reads as it did. -/
def spanTellsUptoRow : OpenClaim := { program := "ytddomdjphkalcaa", sum := "b372ac6725b17a158c5b8d3b2418b7b52abda845665096ae34f025860bb50df6", func := "ecdysis/ecdysislaw32.SpanTells", spec := "spanTells", apart := false, narrowed := true }
def SpanTellsUptoSaid : Prop := spanTellsUptoRow.holds Try.pinned (OpenSpec.upto spanTellsSpec)

/-- 'ecdysislaw32.SpanMeets', WHERE WHAT IT READS IS OF BULK AT MOST 1048576: true; the input reads as it did. -/
def spanMeetsUptoRow : OpenClaim := { program := "ytddomdjphkalcaa", sum := "b372ac6725b17a158c5b8d3b2418b7b52abda845665096ae34f025860bb50df6", func := "ecdysis/ecdysislaw32.SpanMeets", spec := "spanMeets", apart := false, narrowed := true }
def SpanMeetsUptoSaid : Prop := spanMeetsUptoRow.holds Try.pinned (OpenSpec.upto spanMeetsSpec)

/-- 'ecdysislaw11.ScalarWords', WHERE WHAT IT READS IS OF BULK AT MOST 1048576: true; the input reads as it did. -/
def scalarWordsUptoRow : OpenClaim := { program := "ytddomdjphkalcaa", sum := "b372ac6725b17a158c5b8d3b2418b7b52abda845665096ae34f025860bb50df6", func := "ecdysis/ecdysislaw11.ScalarWords", spec := "scalarWords", apart := false, narrowed := true }
def ScalarWordsUptoSaid : Prop := scalarWordsUptoRow.holds Try.pinned (OpenSpec.upto scalarWordsSpec)

/-- 'ecdysislaw11.ScalarTypes', WHERE WHAT IT READS IS OF BULK AT MOST 1048576: true; the input reads as it did. -/
def scalarTypesUptoRow : OpenClaim := { program := "ytddomdjphkalcaa", sum := "b372ac6725b17a158c5b8d3b2418b7b52abda845665096ae34f025860bb50df6", func := "ecdysis/ecdysislaw11.ScalarTypes", spec := "scalarTypes", apart := false, narrowed := true }
def ScalarTypesUptoSaid : Prop := scalarTypesUptoRow.holds Try.pinned (OpenSpec.upto scalarTypesSpec)

/-- 'ecdysislaw11.ScalarAll', WHERE WHAT IT READS IS OF BULK AT MOST 1048576: true; the input reads as it did. -/
def scalarAllUptoRow : OpenClaim := { program := "ytddomdjphkalcaa", sum := "b372ac6725b17a158c5b8d3b2418b7b52abda845665096ae34f025860bb50df6", func := "ecdysis/ecdysislaw11.ScalarAll", spec := "scalarAll", apart := false, narrowed := true }
def ScalarAllUptoSaid : Prop := scalarAllUptoRow.holds Try.pinned (OpenSpec.upto scalarAllSpec)

end Rows
end Go.Proofs.Ytddomdjphkalcaa
