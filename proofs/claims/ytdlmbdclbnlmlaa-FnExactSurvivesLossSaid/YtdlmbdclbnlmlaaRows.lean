/-
  No cell of these rows narrows 'for every input' (looked for: loops, veiled, ifaces, maps, wideKeys, modest, calm, conditions, laid).
  DERIVED. THE GIVEN ROWS OF THIS SEAT. 6 by the template 'for every input the law returns true; each argument reads behind the call as it read before'; 0 by the template 'total and deterministic' (their statements: YtdlmbdclbnlmlaaTotals.lean).
  GIVEN WITH THE SEED: the statements are not yours to turn. If you find one false, say at which input.
  Laid BY PROGRAM, IN A SANDBOX (cutbox-rows.mjs): the forced cells as the released guide's own fill.sh prints them over the translation 151ecf3d0d1eb936… (all of the seat's roots in one cut). By AI agents, Wed Nov 11 2026. No macro, syntax, notation, axiom, sorry.
-/
import Derived.Test.YtdlmbdclbnlmlaaChecked
import GoSem.Claim
import GoSem.ClaimJoined
import GoSem.ClaimMapViews
import Derived.JoinedTies
import Derived.KernelRfl
namespace Go.Proofs.Ytdlmbdclbnlmlaa
/- THE CELL 'sum', in the pinned program and in every row, IS THE sha256 OF THE DUMP (.gsa) THAT YtdlmbdclbnlmlaaProg.lean LOADS. Nothing in Lean hashes anything: it is a label: what it is worth is what the hold of that sum in a sandbox is worth. -/
noncomputable def Try.pinned : Pinned := { name := "ytdlmbdclbnlmlaa", sum := "151ecf3d0d1eb9369ad1df9345161d57563854abc2fac1a24b248a6d59750e86", checked := Try.checked }
namespace Rows
def none {H : Type} : Left H := { results := [], args := [] }

/-- 'laws.FnExactLeastGap': WHATEVER THE INPUT: true; the input reads as it did. -/
def fnExactLeastGapSpec : ChangeSpec := { name := "fnExactLeastGap", fn := fun _ => fun
  | [d1, d2] => { results := [.lit (.bool true)], args := [d1, d2] }
  | _ => none }
def fnExactLeastGapRow : OpenClaim := { program := "ytdlmbdclbnlmlaa", sum := "151ecf3d0d1eb9369ad1df9345161d57563854abc2fac1a24b248a6d59750e86", func := "loop.example/g01312/laws.FnExactLeastGap", spec := "fnExactLeastGap", unfollowed := true, recurses := true, apart := false }
def FnExactLeastGapSaid : Prop := fnExactLeastGapRow.holds Try.pinned (OpenSpec.ofChange fnExactLeastGapSpec)

/-- ITS FALSE NEIGHBOUR: 'it returns false'. Refute it at one input. -/
def fnExactLeastGapWrong : ChangeSpec := { name := "fnExactLeastGap", fn := fun _ => fun
  | [d1, d2] => { results := [.lit (.bool false)], args := [d1, d2] }
  | _ => none }
def FnExactLeastGapWrongFalsely : Prop := fnExactLeastGapRow.holds Try.pinned (OpenSpec.ofChange fnExactLeastGapWrong)

/-- 'laws.FnExactNoiseBorne': WHATEVER THE INPUT: true; the input reads as it did. -/
def fnExactNoiseBorneSpec : ChangeSpec := { name := "fnExactNoiseBorne", fn := fun _ => fun
  | [d1, d2] => { results := [.lit (.bool true)], args := [d1, d2] }
  | _ => none }
def fnExactNoiseBorneRow : OpenClaim := { program := "ytdlmbdclbnlmlaa", sum := "151ecf3d0d1eb9369ad1df9345161d57563854abc2fac1a24b248a6d59750e86", func := "loop.example/g01312/laws.FnExactNoiseBorne", spec := "fnExactNoiseBorne", unfollowed := true, recurses := true, apart := false }
def FnExactNoiseBorneSaid : Prop := fnExactNoiseBorneRow.holds Try.pinned (OpenSpec.ofChange fnExactNoiseBorneSpec)

/-- ITS FALSE NEIGHBOUR: 'it returns false'. Refute it at one input. -/
def fnExactNoiseBorneWrong : ChangeSpec := { name := "fnExactNoiseBorne", fn := fun _ => fun
  | [d1, d2] => { results := [.lit (.bool false)], args := [d1, d2] }
  | _ => none }
def FnExactNoiseBorneWrongFalsely : Prop := fnExactNoiseBorneRow.holds Try.pinned (OpenSpec.ofChange fnExactNoiseBorneWrong)

/-- 'laws.FnExactMeanGap': WHATEVER THE INPUT: true; the input reads as it did. -/
def fnExactMeanGapSpec : ChangeSpec := { name := "fnExactMeanGap", fn := fun _ => fun
  | [d1, d2] => { results := [.lit (.bool true)], args := [d1, d2] }
  | _ => none }
def fnExactMeanGapRow : OpenClaim := { program := "ytdlmbdclbnlmlaa", sum := "151ecf3d0d1eb9369ad1df9345161d57563854abc2fac1a24b248a6d59750e86", func := "loop.example/g01312/laws.FnExactMeanGap", spec := "fnExactMeanGap", unfollowed := true, recurses := true, apart := false }
def FnExactMeanGapSaid : Prop := fnExactMeanGapRow.holds Try.pinned (OpenSpec.ofChange fnExactMeanGapSpec)

/-- ITS FALSE NEIGHBOUR: 'it returns false'. Refute it at one input. -/
def fnExactMeanGapWrong : ChangeSpec := { name := "fnExactMeanGap", fn := fun _ => fun
  | [d1, d2] => { results := [.lit (.bool false)], args := [d1, d2] }
  | _ => none }
def FnExactMeanGapWrongFalsely : Prop := fnExactMeanGapRow.holds Try.pinned (OpenSpec.ofChange fnExactMeanGapWrong)

/-- 'laws.FnExactLeastRatio': WHATEVER THE INPUT: true; the input reads as it did. -/
def fnExactLeastRatioSpec : ChangeSpec := { name := "fnExactLeastRatio", fn := fun _ => fun
  | [d1, d2] => { results := [.lit (.bool true)], args := [d1, d2] }
  | _ => none }
def fnExactLeastRatioRow : OpenClaim := { program := "ytdlmbdclbnlmlaa", sum := "151ecf3d0d1eb9369ad1df9345161d57563854abc2fac1a24b248a6d59750e86", func := "loop.example/g01312/laws.FnExactLeastRatio", spec := "fnExactLeastRatio", unfollowed := true, recurses := true, apart := false }
def FnExactLeastRatioSaid : Prop := fnExactLeastRatioRow.holds Try.pinned (OpenSpec.ofChange fnExactLeastRatioSpec)

/-- ITS FALSE NEIGHBOUR: 'it returns false'. Refute it at one input. -/
def fnExactLeastRatioWrong : ChangeSpec := { name := "fnExactLeastRatio", fn := fun _ => fun
  | [d1, d2] => { results := [.lit (.bool false)], args := [d1, d2] }
  | _ => none }
def FnExactLeastRatioWrongFalsely : Prop := fnExactLeastRatioRow.holds Try.pinned (OpenSpec.ofChange fnExactLeastRatioWrong)

/-- 'laws.FnExactBetterScheme': WHATEVER THE INPUT: true; the input reads as it did. -/
def fnExactBetterSchemeSpec : ChangeSpec := { name := "fnExactBetterScheme", fn := fun _ => fun
  | [d1, d2, d3] => { results := [.lit (.bool true)], args := [d1, d2, d3] }
  | _ => none }
def fnExactBetterSchemeRow : OpenClaim := { program := "ytdlmbdclbnlmlaa", sum := "151ecf3d0d1eb9369ad1df9345161d57563854abc2fac1a24b248a6d59750e86", func := "loop.example/g01312/laws.FnExactBetterScheme", spec := "fnExactBetterScheme", unfollowed := true, recurses := true, apart := false }
def FnExactBetterSchemeSaid : Prop := fnExactBetterSchemeRow.holds Try.pinned (OpenSpec.ofChange fnExactBetterSchemeSpec)

/-- ITS FALSE NEIGHBOUR: 'it returns false'. Refute it at one input. -/
def fnExactBetterSchemeWrong : ChangeSpec := { name := "fnExactBetterScheme", fn := fun _ => fun
  | [d1, d2, d3] => { results := [.lit (.bool false)], args := [d1, d2, d3] }
  | _ => none }
def FnExactBetterSchemeWrongFalsely : Prop := fnExactBetterSchemeRow.holds Try.pinned (OpenSpec.ofChange fnExactBetterSchemeWrong)

/-- 'laws.FnExactSurvivesLoss': WHATEVER THE INPUT: true; the input reads as it did. -/
def fnExactSurvivesLossSpec : ChangeSpec := { name := "fnExactSurvivesLoss", fn := fun _ => fun
  | [d1, d2, d3] => { results := [.lit (.bool true)], args := [d1, d2, d3] }
  | _ => none }
def fnExactSurvivesLossRow : OpenClaim := { program := "ytdlmbdclbnlmlaa", sum := "151ecf3d0d1eb9369ad1df9345161d57563854abc2fac1a24b248a6d59750e86", func := "loop.example/g01312/laws.FnExactSurvivesLoss", spec := "fnExactSurvivesLoss", unfollowed := true, recurses := true, apart := false }
def FnExactSurvivesLossSaid : Prop := fnExactSurvivesLossRow.holds Try.pinned (OpenSpec.ofChange fnExactSurvivesLossSpec)

/-- ITS FALSE NEIGHBOUR: 'it returns false'. Refute it at one input. -/
def fnExactSurvivesLossWrong : ChangeSpec := { name := "fnExactSurvivesLoss", fn := fun _ => fun
  | [d1, d2, d3] => { results := [.lit (.bool false)], args := [d1, d2, d3] }
  | _ => none }
def FnExactSurvivesLossWrongFalsely : Prop := fnExactSurvivesLossRow.holds Try.pinned (OpenSpec.ofChange fnExactSurvivesLossWrong)

/- THE SECOND FORM. 'bulk': how many values and letters a reading holds, each counted each time it is reached (what is shared counts as often as it is met; a slice's spare places count too). A statement '..UptoSaid' is the law's where the arguments, and the package variables that the reading takes, are together of bulk at most 1048576: NARROWER than '..Said'. Prove '..Said' where nothing that the law and all that it calls make is longer than what came in: it says more and counts as full. Else prove '..UptoSaid'. A law counts once. -/
mutual
def uptoBulk {H : Type} : DataW H → Nat
  | .lit (.string bytes) => bytes.length + 1
  | .lit _ => 1
  | .nil => 1
  | .ptr d => uptoBulk d + 1
  | .slice elems spare => uptoBulkAll elems + uptoBulkAll spare + 1
  | .agg parts => uptoBulkAll parts + 1
  | .iface _ d => uptoBulk d + 1
  | .map entries => uptoBulkEntries entries + 1
  | .held _ => 1
def uptoBulkAll {H : Type} : List (DataW H) → Nat
  | [] => 0
  | d :: r => uptoBulk d + uptoBulkAll r
def uptoBulkEntries {H : Type} : List (Lit × DataW H) → Nat
  | [] => 0
  | x :: r => uptoBulkEntry x + uptoBulkEntries r
def uptoBulkEntry {H : Type} : Lit × DataW H → Nat
  | (.string bytes, d) => bytes.length + uptoBulk d + 1
  | (_, d) => uptoBulk d + 1
 end
def uptoSmall : (H : Type) → List (DataW H) → Bool := fun _ ds => decide (uptoBulkAll ds ≤ 1048576)
def OpenSpec.upto (s : _root_.Go.ChangeSpec) : _root_.Go.OpenSpec := { _root_.Go.OpenSpec.ofChange s with cond := some uptoSmall }

/-- 'laws.FnExactLeastGap', WHERE WHAT IT READS IS OF BULK AT MOST 1048576: true; the input reads as it did. -/
def fnExactLeastGapUptoRow : OpenClaim := { program := "ytdlmbdclbnlmlaa", sum := "151ecf3d0d1eb9369ad1df9345161d57563854abc2fac1a24b248a6d59750e86", func := "loop.example/g01312/laws.FnExactLeastGap", spec := "fnExactLeastGap", unfollowed := true, recurses := true, apart := false, narrowed := true }
def FnExactLeastGapUptoSaid : Prop := fnExactLeastGapUptoRow.holds Try.pinned (OpenSpec.upto fnExactLeastGapSpec)

/-- 'laws.FnExactNoiseBorne', WHERE WHAT IT READS IS OF BULK AT MOST 1048576: true; the input reads as it did. -/
def fnExactNoiseBorneUptoRow : OpenClaim := { program := "ytdlmbdclbnlmlaa", sum := "151ecf3d0d1eb9369ad1df9345161d57563854abc2fac1a24b248a6d59750e86", func := "loop.example/g01312/laws.FnExactNoiseBorne", spec := "fnExactNoiseBorne", unfollowed := true, recurses := true, apart := false, narrowed := true }
def FnExactNoiseBorneUptoSaid : Prop := fnExactNoiseBorneUptoRow.holds Try.pinned (OpenSpec.upto fnExactNoiseBorneSpec)

/-- 'laws.FnExactMeanGap', WHERE WHAT IT READS IS OF BULK AT MOST 1048576: true; the input reads as it did. -/
def fnExactMeanGapUptoRow : OpenClaim := { program := "ytdlmbdclbnlmlaa", sum := "151ecf3d0d1eb9369ad1df9345161d57563854abc2fac1a24b248a6d59750e86", func := "loop.example/g01312/laws.FnExactMeanGap", spec := "fnExactMeanGap", unfollowed := true, recurses := true, apart := false, narrowed := true }
def FnExactMeanGapUptoSaid : Prop := fnExactMeanGapUptoRow.holds Try.pinned (OpenSpec.upto fnExactMeanGapSpec)

/-- 'laws.FnExactLeastRatio', WHERE WHAT IT READS IS OF BULK AT MOST 1048576: true; the input reads as it did. -/
def fnExactLeastRatioUptoRow : OpenClaim := { program := "ytdlmbdclbnlmlaa", sum := "151ecf3d0d1eb9369ad1df9345161d57563854abc2fac1a24b248a6d59750e86", func := "loop.example/g01312/laws.FnExactLeastRatio", spec := "fnExactLeastRatio", unfollowed := true, recurses := true, apart := false, narrowed := true }
def FnExactLeastRatioUptoSaid : Prop := fnExactLeastRatioUptoRow.holds Try.pinned (OpenSpec.upto fnExactLeastRatioSpec)

/-- 'laws.FnExactBetterScheme', WHERE WHAT IT READS IS OF BULK AT MOST 1048576: true; the input reads as it did. -/
def fnExactBetterSchemeUptoRow : OpenClaim := { program := "ytdlmbdclbnlmlaa", sum := "151ecf3d0d1eb9369ad1df9345161d57563854abc2fac1a24b248a6d59750e86", func := "loop.example/g01312/laws.FnExactBetterScheme", spec := "fnExactBetterScheme", unfollowed := true, recurses := true, apart := false, narrowed := true }
def FnExactBetterSchemeUptoSaid : Prop := fnExactBetterSchemeUptoRow.holds Try.pinned (OpenSpec.upto fnExactBetterSchemeSpec)

/-- 'laws.FnExactSurvivesLoss', WHERE WHAT IT READS IS OF BULK AT MOST 1048576: true; the input reads as it did. -/
def fnExactSurvivesLossUptoRow : OpenClaim := { program := "ytdlmbdclbnlmlaa", sum := "151ecf3d0d1eb9369ad1df9345161d57563854abc2fac1a24b248a6d59750e86", func := "loop.example/g01312/laws.FnExactSurvivesLoss", spec := "fnExactSurvivesLoss", unfollowed := true, recurses := true, apart := false, narrowed := true }
def FnExactSurvivesLossUptoSaid : Prop := fnExactSurvivesLossUptoRow.holds Try.pinned (OpenSpec.upto fnExactSurvivesLossSpec)

end Rows
end Go.Proofs.Ytdlmbdclbnlmlaa
