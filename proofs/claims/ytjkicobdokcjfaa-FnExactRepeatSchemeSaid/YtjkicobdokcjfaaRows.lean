/-
  No cell of these rows narrows 'for every input' (looked for: loops, veiled, ifaces, maps, wideKeys, modest, calm, conditions, laid).
  DERIVED. THE GIVEN ROWS OF THIS SEAT. 7 by the template 'for every input the law returns true; each argument reads behind the call as it read before'; 0 by the template 'total and deterministic' (their statements: YtjkicobdokcjfaaTotals.lean).
  GIVEN WITH THE SEED: the statements are not yours to turn. If you find one false, say at which input.
  Laid BY PROGRAM, IN A SANDBOX (cutbox-rows.mjs): the forced cells as the released guide's own fill.sh prints them over the translation fa095453ff180fd5… (all of the seat's roots in one cut). By AI agents, Wed Nov 11 2026. No macro, syntax, notation, axiom, sorry.
-/
import Derived.Test.YtjkicobdokcjfaaChecked
import GoSem.Claim
import GoSem.ClaimJoined
import GoSem.ClaimMapViews
import Derived.JoinedTies
import Derived.KernelRfl
namespace Go.Proofs.Ytjkicobdokcjfaa
/- THE CELL 'sum', in the pinned program and in every row, IS THE sha256 OF THE DUMP (.gsa) THAT YtjkicobdokcjfaaProg.lean LOADS. Nothing in Lean hashes anything: it is a label: what it is worth is what the hold of that sum in a sandbox is worth. -/
noncomputable def Try.pinned : Pinned := { name := "ytjkicobdokcjfaa", sum := "fa095453ff180fd5297f3b99f77718fee8f4a179f1c68e6d16d4e7c8e6ec8a08", checked := Try.checked }
namespace Rows
def none {H : Type} : Left H := { results := [], args := [] }

/-- 'laws.FnExactCompareRatios': WHATEVER THE INPUT: true; the input reads as it did. -/
def fnExactCompareRatiosSpec : ChangeSpec := { name := "fnExactCompareRatios", fn := fun _ => fun
  | [d1, d2] => { results := [.lit (.bool true)], args := [d1, d2] }
  | _ => none }
def fnExactCompareRatiosRow : OpenClaim := { program := "ytjkicobdokcjfaa", sum := "fa095453ff180fd5297f3b99f77718fee8f4a179f1c68e6d16d4e7c8e6ec8a08", func := "loop.example/g01312/laws.FnExactCompareRatios", spec := "fnExactCompareRatios", apart := false }
def FnExactCompareRatiosSaid : Prop := fnExactCompareRatiosRow.holds Try.pinned (OpenSpec.ofChange fnExactCompareRatiosSpec)

/-- ITS FALSE NEIGHBOUR: 'it returns false'. Refute it at one input. -/
def fnExactCompareRatiosWrong : ChangeSpec := { name := "fnExactCompareRatios", fn := fun _ => fun
  | [d1, d2] => { results := [.lit (.bool false)], args := [d1, d2] }
  | _ => none }
def FnExactCompareRatiosWrongFalsely : Prop := fnExactCompareRatiosRow.holds Try.pinned (OpenSpec.ofChange fnExactCompareRatiosWrong)

/-- 'laws.FnExactLosePart': WHATEVER THE INPUT: true; the input reads as it did. -/
def fnExactLosePartSpec : ChangeSpec := { name := "fnExactLosePart", fn := fun _ => fun
  | [d1, d2] => { results := [.lit (.bool true)], args := [d1, d2] }
  | _ => none }
def fnExactLosePartRow : OpenClaim := { program := "ytjkicobdokcjfaa", sum := "fa095453ff180fd5297f3b99f77718fee8f4a179f1c68e6d16d4e7c8e6ec8a08", func := "loop.example/g01312/laws.FnExactLosePart", spec := "fnExactLosePart", apart := false }
def FnExactLosePartSaid : Prop := fnExactLosePartRow.holds Try.pinned (OpenSpec.ofChange fnExactLosePartSpec)

/-- ITS FALSE NEIGHBOUR: 'it returns false'. Refute it at one input. -/
def fnExactLosePartWrong : ChangeSpec := { name := "fnExactLosePart", fn := fun _ => fun
  | [d1, d2] => { results := [.lit (.bool false)], args := [d1, d2] }
  | _ => none }
def FnExactLosePartWrongFalsely : Prop := fnExactLosePartRow.holds Try.pinned (OpenSpec.ofChange fnExactLosePartWrong)

/-- 'laws.FnExactGapTable': WHATEVER THE INPUT: true; the input reads as it did. -/
def fnExactGapTableSpec : ChangeSpec := { name := "fnExactGapTable", fn := fun _ => fun
  | [d] => { results := [.lit (.bool true)], args := [d] }
  | _ => none }
def fnExactGapTableRow : OpenClaim := { program := "ytjkicobdokcjfaa", sum := "fa095453ff180fd5297f3b99f77718fee8f4a179f1c68e6d16d4e7c8e6ec8a08", func := "loop.example/g01312/laws.FnExactGapTable", spec := "fnExactGapTable", apart := false }
def FnExactGapTableSaid : Prop := fnExactGapTableRow.holds Try.pinned (OpenSpec.ofChange fnExactGapTableSpec)

/-- ITS FALSE NEIGHBOUR: 'it returns false'. Refute it at one input. -/
def fnExactGapTableWrong : ChangeSpec := { name := "fnExactGapTable", fn := fun _ => fun
  | [d] => { results := [.lit (.bool false)], args := [d] }
  | _ => none }
def FnExactGapTableWrongFalsely : Prop := fnExactGapTableRow.holds Try.pinned (OpenSpec.ofChange fnExactGapTableWrong)

/-- 'laws.FnExactRepeatScheme': WHATEVER THE INPUT: true; the input reads as it did. -/
def fnExactRepeatSchemeSpec : ChangeSpec := { name := "fnExactRepeatScheme", fn := fun _ => fun
  | [d1, d2] => { results := [.lit (.bool true)], args := [d1, d2] }
  | _ => none }
def fnExactRepeatSchemeRow : OpenClaim := { program := "ytjkicobdokcjfaa", sum := "fa095453ff180fd5297f3b99f77718fee8f4a179f1c68e6d16d4e7c8e6ec8a08", func := "loop.example/g01312/laws.FnExactRepeatScheme", spec := "fnExactRepeatScheme", apart := false }
def FnExactRepeatSchemeSaid : Prop := fnExactRepeatSchemeRow.holds Try.pinned (OpenSpec.ofChange fnExactRepeatSchemeSpec)

/-- ITS FALSE NEIGHBOUR: 'it returns false'. Refute it at one input. -/
def fnExactRepeatSchemeWrong : ChangeSpec := { name := "fnExactRepeatScheme", fn := fun _ => fun
  | [d1, d2] => { results := [.lit (.bool false)], args := [d1, d2] }
  | _ => none }
def FnExactRepeatSchemeWrongFalsely : Prop := fnExactRepeatSchemeRow.holds Try.pinned (OpenSpec.ofChange fnExactRepeatSchemeWrong)

/-- 'laws.FnExactSurvivesNoise': WHATEVER THE INPUT: true; the input reads as it did. -/
def fnExactSurvivesNoiseSpec : ChangeSpec := { name := "fnExactSurvivesNoise", fn := fun _ => fun
  | [d1, d2, d3] => { results := [.lit (.bool true)], args := [d1, d2, d3] }
  | _ => none }
def fnExactSurvivesNoiseRow : OpenClaim := { program := "ytjkicobdokcjfaa", sum := "fa095453ff180fd5297f3b99f77718fee8f4a179f1c68e6d16d4e7c8e6ec8a08", func := "loop.example/g01312/laws.FnExactSurvivesNoise", spec := "fnExactSurvivesNoise", apart := false }
def FnExactSurvivesNoiseSaid : Prop := fnExactSurvivesNoiseRow.holds Try.pinned (OpenSpec.ofChange fnExactSurvivesNoiseSpec)

/-- ITS FALSE NEIGHBOUR: 'it returns false'. Refute it at one input. -/
def fnExactSurvivesNoiseWrong : ChangeSpec := { name := "fnExactSurvivesNoise", fn := fun _ => fun
  | [d1, d2, d3] => { results := [.lit (.bool false)], args := [d1, d2, d3] }
  | _ => none }
def FnExactSurvivesNoiseWrongFalsely : Prop := fnExactSurvivesNoiseRow.holds Try.pinned (OpenSpec.ofChange fnExactSurvivesNoiseWrong)

/-- 'laws.FnExactLevelsOf': WHATEVER THE INPUT: true; the input reads as it did. -/
def fnExactLevelsOfSpec : ChangeSpec := { name := "fnExactLevelsOf", fn := fun _ => fun
  | [d1, d2] => { results := [.lit (.bool true)], args := [d1, d2] }
  | _ => none }
def fnExactLevelsOfRow : OpenClaim := { program := "ytjkicobdokcjfaa", sum := "fa095453ff180fd5297f3b99f77718fee8f4a179f1c68e6d16d4e7c8e6ec8a08", func := "loop.example/g01312/laws.FnExactLevelsOf", spec := "fnExactLevelsOf", apart := false }
def FnExactLevelsOfSaid : Prop := fnExactLevelsOfRow.holds Try.pinned (OpenSpec.ofChange fnExactLevelsOfSpec)

/-- ITS FALSE NEIGHBOUR: 'it returns false'. Refute it at one input. -/
def fnExactLevelsOfWrong : ChangeSpec := { name := "fnExactLevelsOf", fn := fun _ => fun
  | [d1, d2] => { results := [.lit (.bool false)], args := [d1, d2] }
  | _ => none }
def FnExactLevelsOfWrongFalsely : Prop := fnExactLevelsOfRow.holds Try.pinned (OpenSpec.ofChange fnExactLevelsOfWrong)

/-- 'laws.FnExactRatioOf': WHATEVER THE INPUT: true; the input reads as it did. -/
def fnExactRatioOfSpec : ChangeSpec := { name := "fnExactRatioOf", fn := fun _ => fun
  | [d1, d2] => { results := [.lit (.bool true)], args := [d1, d2] }
  | _ => none }
def fnExactRatioOfRow : OpenClaim := { program := "ytjkicobdokcjfaa", sum := "fa095453ff180fd5297f3b99f77718fee8f4a179f1c68e6d16d4e7c8e6ec8a08", func := "loop.example/g01312/laws.FnExactRatioOf", spec := "fnExactRatioOf", recurses := true, apart := false }
def FnExactRatioOfSaid : Prop := fnExactRatioOfRow.holds Try.pinned (OpenSpec.ofChange fnExactRatioOfSpec)

/-- ITS FALSE NEIGHBOUR: 'it returns false'. Refute it at one input. -/
def fnExactRatioOfWrong : ChangeSpec := { name := "fnExactRatioOf", fn := fun _ => fun
  | [d1, d2] => { results := [.lit (.bool false)], args := [d1, d2] }
  | _ => none }
def FnExactRatioOfWrongFalsely : Prop := fnExactRatioOfRow.holds Try.pinned (OpenSpec.ofChange fnExactRatioOfWrong)

/- THE SECOND FORM. 'bulk': how many values and letters a reading holds, each counted each time it is reached (what is shared counts as often as it is met; a slice's spare places count too). A statement '..UptoSaid' is the law's where the arguments, and the package variables that the reading takes, are together of bulk at most 1048576: NARROWER than '..Said'. Prove '..Said' where nothing that the law and all that it calls make is longer than what came in: it says more and counts as full. Else prove '..UptoSaid'. A law counts once. -/
mutual
def uptoBulk {H : Type} : DataW H → Nat
  | .lit (.string bytes) => bytes.length + 1
  | .lit _ => 1
  | .nil => 1
  | .ptr d => uptoBulk d + 1
  | .slice elems spare => uptoBulkAll elems + uptoBulkAll spare + 1
  | .agg parts => uptoBulkAll parts + 1
  | .iface _ d => uptoBulk d + 1
  | .map entries => uptoBulkEntries entries + 1
  | .held _ => 1
def uptoBulkAll {H : Type} : List (DataW H) → Nat
  | [] => 0
  | d :: r => uptoBulk d + uptoBulkAll r
def uptoBulkEntries {H : Type} : List (Lit × DataW H) → Nat
  | [] => 0
  | x :: r => uptoBulkEntry x + uptoBulkEntries r
def uptoBulkEntry {H : Type} : Lit × DataW H → Nat
  | (.string bytes, d) => bytes.length + uptoBulk d + 1
  | (_, d) => uptoBulk d + 1
 end
def uptoSmall : (H : Type) → List (DataW H) → Bool := fun _ ds => decide (uptoBulkAll ds ≤ 1048576)
def OpenSpec.upto (s : _root_.Go.ChangeSpec) : _root_.Go.OpenSpec := { _root_.Go.OpenSpec.ofChange s with cond := some uptoSmall }

/-- 'laws.FnExactCompareRatios', WHERE WHAT IT READS IS OF BULK AT MOST 1048576: true; the input reads as it did. -/
def fnExactCompareRatiosUptoRow : OpenClaim := { program := "ytjkicobdokcjfaa", sum := "fa095453ff180fd5297f3b99f77718fee8f4a179f1c68e6d16d4e7c8e6ec8a08", func := "loop.example/g01312/laws.FnExactCompareRatios", spec := "fnExactCompareRatios", apart := false, narrowed := true }
def FnExactCompareRatiosUptoSaid : Prop := fnExactCompareRatiosUptoRow.holds Try.pinned (OpenSpec.upto fnExactCompareRatiosSpec)

/-- 'laws.FnExactLosePart', WHERE WHAT IT READS IS OF BULK AT MOST 1048576: true; the input reads as it did. -/
def fnExactLosePartUptoRow : OpenClaim := { program := "ytjkicobdokcjfaa", sum := "fa095453ff180fd5297f3b99f77718fee8f4a179f1c68e6d16d4e7c8e6ec8a08", func := "loop.example/g01312/laws.FnExactLosePart", spec := "fnExactLosePart", apart := false, narrowed := true }
def FnExactLosePartUptoSaid : Prop := fnExactLosePartUptoRow.holds Try.pinned (OpenSpec.upto fnExactLosePartSpec)

/-- 'laws.FnExactGapTable', WHERE WHAT IT READS IS OF BULK AT MOST 1048576: true; the input reads as it did. -/
def fnExactGapTableUptoRow : OpenClaim := { program := "ytjkicobdokcjfaa", sum := "fa095453ff180fd5297f3b99f77718fee8f4a179f1c68e6d16d4e7c8e6ec8a08", func := "loop.example/g01312/laws.FnExactGapTable", spec := "fnExactGapTable", apart := false, narrowed := true }
def FnExactGapTableUptoSaid : Prop := fnExactGapTableUptoRow.holds Try.pinned (OpenSpec.upto fnExactGapTableSpec)

/-- 'laws.FnExactRepeatScheme', WHERE WHAT IT READS IS OF BULK AT MOST 1048576: true; the input reads as it did. -/
def fnExactRepeatSchemeUptoRow : OpenClaim := { program := "ytjkicobdokcjfaa", sum := "fa095453ff180fd5297f3b99f77718fee8f4a179f1c68e6d16d4e7c8e6ec8a08", func := "loop.example/g01312/laws.FnExactRepeatScheme", spec := "fnExactRepeatScheme", apart := false, narrowed := true }
def FnExactRepeatSchemeUptoSaid : Prop := fnExactRepeatSchemeUptoRow.holds Try.pinned (OpenSpec.upto fnExactRepeatSchemeSpec)

/-- 'laws.FnExactSurvivesNoise', WHERE WHAT IT READS IS OF BULK AT MOST 1048576: true; the input reads as it did. -/
def fnExactSurvivesNoiseUptoRow : OpenClaim := { program := "ytjkicobdokcjfaa", sum := "fa095453ff180fd5297f3b99f77718fee8f4a179f1c68e6d16d4e7c8e6ec8a08", func := "loop.example/g01312/laws.FnExactSurvivesNoise", spec := "fnExactSurvivesNoise", apart := false, narrowed := true }
def FnExactSurvivesNoiseUptoSaid : Prop := fnExactSurvivesNoiseUptoRow.holds Try.pinned (OpenSpec.upto fnExactSurvivesNoiseSpec)

/-- 'laws.FnExactLevelsOf', WHERE WHAT IT READS IS OF BULK AT MOST 1048576: true; the input reads as it did. -/
def fnExactLevelsOfUptoRow : OpenClaim := { program := "ytjkicobdokcjfaa", sum := "fa095453ff180fd5297f3b99f77718fee8f4a179f1c68e6d16d4e7c8e6ec8a08", func := "loop.example/g01312/laws.FnExactLevelsOf", spec := "fnExactLevelsOf", apart := false, narrowed := true }
def FnExactLevelsOfUptoSaid : Prop := fnExactLevelsOfUptoRow.holds Try.pinned (OpenSpec.upto fnExactLevelsOfSpec)

/-- 'laws.FnExactRatioOf', WHERE WHAT IT READS IS OF BULK AT MOST 1048576: true; the input reads as it did. -/
def fnExactRatioOfUptoRow : OpenClaim := { program := "ytjkicobdokcjfaa", sum := "fa095453ff180fd5297f3b99f77718fee8f4a179f1c68e6d16d4e7c8e6ec8a08", func := "loop.example/g01312/laws.FnExactRatioOf", spec := "fnExactRatioOf", recurses := true, apart := false, narrowed := true }
def FnExactRatioOfUptoSaid : Prop := fnExactRatioOfUptoRow.holds Try.pinned (OpenSpec.upto fnExactRatioOfSpec)

end Rows
end Go.Proofs.Ytjkicobdokcjfaa
