/-
  No cell of these rows narrows 'for every input' (looked for: loops, veiled, ifaces, maps, wideKeys, modest, calm, conditions, laid).
  DERIVED. THE GIVEN ROWS OF THIS SEAT. 6 by the template 'for every input the law returns true; each argument reads behind the call as it read before'; 0 by the template 'total and deterministic' (their statements: YtgcgfcfkbeomdaaTotals.lean).
  GIVEN WITH THE SEED: the statements are not yours to turn. If you find one false, say at which input.
  Laid BY PROGRAM, IN A SANDBOX (cutbox-rows.mjs): the forced cells as the released guide's own fill.sh prints them over the translation af312e00088003c0… (all of the seat's roots in one cut). By AI agents, Wed Nov 11 2026. No macro, syntax, notation, axiom, sorry.
-/
import Derived.Test.YtgcgfcfkbeomdaaChecked
import GoSem.Claim
import GoSem.ClaimJoined
import GoSem.ClaimMapViews
import Derived.JoinedTies
import Derived.KernelRfl
namespace Go.Proofs.Ytgcgfcfkbeomdaa
/- THE CELL 'sum', in the pinned program and in every row, IS THE sha256 OF THE DUMP (.gsa) THAT YtgcgfcfkbeomdaaProg.lean LOADS. Nothing in Lean hashes anything: it is a label: what it is worth is what the hold of that sum in a sandbox is worth. -/
noncomputable def Try.pinned : Pinned := { name := "ytgcgfcfkbeomdaa", sum := "af312e00088003c03b57edee6372ce60021738157e31f74b06513b6e0539da8d", checked := Try.checked }
namespace Rows
def none {H : Type} : Left H := { results := [], args := [] }

/-- 'laws.FnExactSameHandings': WHATEVER THE INPUT: true; the input reads as it did. -/
def fnExactSameHandingsSpec : ChangeSpec := { name := "fnExactSameHandings", fn := fun _ => fun
  | [d1, d2] => { results := [.lit (.bool true)], args := [d1, d2] }
  | _ => none }
def fnExactSameHandingsRow : OpenClaim := { program := "ytgcgfcfkbeomdaa", sum := "af312e00088003c03b57edee6372ce60021738157e31f74b06513b6e0539da8d", func := "loop.example/g01312/laws.FnExactSameHandings", spec := "fnExactSameHandings", apart := false }
def FnExactSameHandingsSaid : Prop := fnExactSameHandingsRow.holds Try.pinned (OpenSpec.ofChange fnExactSameHandingsSpec)

/-- ITS FALSE NEIGHBOUR: 'it returns false'. Refute it at one input. -/
def fnExactSameHandingsWrong : ChangeSpec := { name := "fnExactSameHandings", fn := fun _ => fun
  | [d1, d2] => { results := [.lit (.bool false)], args := [d1, d2] }
  | _ => none }
def FnExactSameHandingsWrongFalsely : Prop := fnExactSameHandingsRow.holds Try.pinned (OpenSpec.ofChange fnExactSameHandingsWrong)

/-- 'laws.FnExactValidHandings': WHATEVER THE INPUT: true; the input reads as it did. -/
def fnExactValidHandingsSpec : ChangeSpec := { name := "fnExactValidHandings", fn := fun _ => fun
  | [d1, d2] => { results := [.lit (.bool true)], args := [d1, d2] }
  | _ => none }
def fnExactValidHandingsRow : OpenClaim := { program := "ytgcgfcfkbeomdaa", sum := "af312e00088003c03b57edee6372ce60021738157e31f74b06513b6e0539da8d", func := "loop.example/g01312/laws.FnExactValidHandings", spec := "fnExactValidHandings", unfollowed := true, recurses := true, apart := false }
def FnExactValidHandingsSaid : Prop := fnExactValidHandingsRow.holds Try.pinned (OpenSpec.ofChange fnExactValidHandingsSpec)

/-- ITS FALSE NEIGHBOUR: 'it returns false'. Refute it at one input. -/
def fnExactValidHandingsWrong : ChangeSpec := { name := "fnExactValidHandings", fn := fun _ => fun
  | [d1, d2] => { results := [.lit (.bool false)], args := [d1, d2] }
  | _ => none }
def FnExactValidHandingsWrongFalsely : Prop := fnExactValidHandingsRow.holds Try.pinned (OpenSpec.ofChange fnExactValidHandingsWrong)

/-- 'laws.FnExactHolderAfter': WHATEVER THE INPUT: true; the input reads as it did. -/
def fnExactHolderAfterSpec : ChangeSpec := { name := "fnExactHolderAfter", fn := fun _ => fun
  | [d1, d2, d3, d4] => { results := [.lit (.bool true)], args := [d1, d2, d3, d4] }
  | _ => none }
def fnExactHolderAfterRow : OpenClaim := { program := "ytgcgfcfkbeomdaa", sum := "af312e00088003c03b57edee6372ce60021738157e31f74b06513b6e0539da8d", func := "loop.example/g01312/laws.FnExactHolderAfter", spec := "fnExactHolderAfter", unfollowed := true, recurses := true, apart := false }
def FnExactHolderAfterSaid : Prop := fnExactHolderAfterRow.holds Try.pinned (OpenSpec.ofChange fnExactHolderAfterSpec)

/-- ITS FALSE NEIGHBOUR: 'it returns false'. Refute it at one input. -/
def fnExactHolderAfterWrong : ChangeSpec := { name := "fnExactHolderAfter", fn := fun _ => fun
  | [d1, d2, d3, d4] => { results := [.lit (.bool false)], args := [d1, d2, d3, d4] }
  | _ => none }
def FnExactHolderAfterWrongFalsely : Prop := fnExactHolderAfterRow.holds Try.pinned (OpenSpec.ofChange fnExactHolderAfterWrong)

/-- 'laws.FnExactKnownTo': WHATEVER THE INPUT: true; the input reads as it did. -/
def fnExactKnownToSpec : ChangeSpec := { name := "fnExactKnownTo", fn := fun _ => fun
  | [d1, d2, d3, d4] => { results := [.lit (.bool true)], args := [d1, d2, d3, d4] }
  | _ => none }
def fnExactKnownToRow : OpenClaim := { program := "ytgcgfcfkbeomdaa", sum := "af312e00088003c03b57edee6372ce60021738157e31f74b06513b6e0539da8d", func := "loop.example/g01312/laws.FnExactKnownTo", spec := "fnExactKnownTo", unfollowed := true, recurses := true, apart := false }
def FnExactKnownToSaid : Prop := fnExactKnownToRow.holds Try.pinned (OpenSpec.ofChange fnExactKnownToSpec)

/-- ITS FALSE NEIGHBOUR: 'it returns false'. Refute it at one input. -/
def fnExactKnownToWrong : ChangeSpec := { name := "fnExactKnownTo", fn := fun _ => fun
  | [d1, d2, d3, d4] => { results := [.lit (.bool false)], args := [d1, d2, d3, d4] }
  | _ => none }
def FnExactKnownToWrongFalsely : Prop := fnExactKnownToRow.holds Try.pinned (OpenSpec.ofChange fnExactKnownToWrong)

/-- 'laws.FnExactSeersAfter': WHATEVER THE INPUT: true; the input reads as it did. -/
def fnExactSeersAfterSpec : ChangeSpec := { name := "fnExactSeersAfter", fn := fun _ => fun
  | [d1, d2, d3] => { results := [.lit (.bool true)], args := [d1, d2, d3] }
  | _ => none }
def fnExactSeersAfterRow : OpenClaim := { program := "ytgcgfcfkbeomdaa", sum := "af312e00088003c03b57edee6372ce60021738157e31f74b06513b6e0539da8d", func := "loop.example/g01312/laws.FnExactSeersAfter", spec := "fnExactSeersAfter", unfollowed := true, recurses := true, apart := false }
def FnExactSeersAfterSaid : Prop := fnExactSeersAfterRow.holds Try.pinned (OpenSpec.ofChange fnExactSeersAfterSpec)

/-- ITS FALSE NEIGHBOUR: 'it returns false'. Refute it at one input. -/
def fnExactSeersAfterWrong : ChangeSpec := { name := "fnExactSeersAfter", fn := fun _ => fun
  | [d1, d2, d3] => { results := [.lit (.bool false)], args := [d1, d2, d3] }
  | _ => none }
def FnExactSeersAfterWrongFalsely : Prop := fnExactSeersAfterRow.holds Try.pinned (OpenSpec.ofChange fnExactSeersAfterWrong)

/-- 'laws.FnExactFirstSight': WHATEVER THE INPUT: true; the input reads as it did. -/
def fnExactFirstSightSpec : ChangeSpec := { name := "fnExactFirstSight", fn := fun _ => fun
  | [d1, d2] => { results := [.lit (.bool true)], args := [d1, d2] }
  | _ => none }
def fnExactFirstSightRow : OpenClaim := { program := "ytgcgfcfkbeomdaa", sum := "af312e00088003c03b57edee6372ce60021738157e31f74b06513b6e0539da8d", func := "loop.example/g01312/laws.FnExactFirstSight", spec := "fnExactFirstSight", unfollowed := true, recurses := true, apart := false }
def FnExactFirstSightSaid : Prop := fnExactFirstSightRow.holds Try.pinned (OpenSpec.ofChange fnExactFirstSightSpec)

/-- ITS FALSE NEIGHBOUR: 'it returns false'. Refute it at one input. -/
def fnExactFirstSightWrong : ChangeSpec := { name := "fnExactFirstSight", fn := fun _ => fun
  | [d1, d2] => { results := [.lit (.bool false)], args := [d1, d2] }
  | _ => none }
def FnExactFirstSightWrongFalsely : Prop := fnExactFirstSightRow.holds Try.pinned (OpenSpec.ofChange fnExactFirstSightWrong)

/- THE SECOND FORM. 'bulk': how many values and letters a reading holds, each counted each time it is reached (what is shared counts as often as it is met; a slice's spare places count too). A statement '..UptoSaid' is the law's where the arguments, and the package variables that the reading takes, are together of bulk at most 1048576: NARROWER than '..Said'. Prove '..Said' where nothing that the law and all that it calls make is longer than what came in: it says more and counts as full. Else prove '..UptoSaid'. A law counts once. -/
mutual
def uptoBulk {H : Type} : DataW H → Nat
  | .lit (.string bytes) => bytes.length + 1
  | .lit _ => 1
  | .nil => 1
  | .ptr d => uptoBulk d + 1
  | .slice elems spare => uptoBulkAll elems + uptoBulkAll spare + 1
  | .agg parts => uptoBulkAll parts + 1
  | .iface _ d => uptoBulk d + 1
  | .map entries => uptoBulkEntries entries + 1
  | .held _ => 1
def uptoBulkAll {H : Type} : List (DataW H) → Nat
  | [] => 0
  | d :: r => uptoBulk d + uptoBulkAll r
def uptoBulkEntries {H : Type} : List (Lit × DataW H) → Nat
  | [] => 0
  | x :: r => uptoBulkEntry x + uptoBulkEntries r
def uptoBulkEntry {H : Type} : Lit × DataW H → Nat
  | (.string bytes, d) => bytes.length + uptoBulk d + 1
  | (_, d) => uptoBulk d + 1
 end
def uptoSmall : (H : Type) → List (DataW H) → Bool := fun _ ds => decide (uptoBulkAll ds ≤ 1048576)
def OpenSpec.upto (s : _root_.Go.ChangeSpec) : _root_.Go.OpenSpec := { _root_.Go.OpenSpec.ofChange s with cond := some uptoSmall }

/-- 'laws.FnExactSameHandings', WHERE WHAT IT READS IS OF BULK AT MOST 1048576: true; the input reads as it did. -/
def fnExactSameHandingsUptoRow : OpenClaim := { program := "ytgcgfcfkbeomdaa", sum := "af312e00088003c03b57edee6372ce60021738157e31f74b06513b6e0539da8d", func := "loop.example/g01312/laws.FnExactSameHandings", spec := "fnExactSameHandings", apart := false, narrowed := true }
def FnExactSameHandingsUptoSaid : Prop := fnExactSameHandingsUptoRow.holds Try.pinned (OpenSpec.upto fnExactSameHandingsSpec)

/-- 'laws.FnExactValidHandings', WHERE WHAT IT READS IS OF BULK AT MOST 1048576: true; the input reads as it did. -/
def fnExactValidHandingsUptoRow : OpenClaim := { program := "ytgcgfcfkbeomdaa", sum := "af312e00088003c03b57edee6372ce60021738157e31f74b06513b6e0539da8d", func := "loop.example/g01312/laws.FnExactValidHandings", spec := "fnExactValidHandings", unfollowed := true, recurses := true, apart := false, narrowed := true }
def FnExactValidHandingsUptoSaid : Prop := fnExactValidHandingsUptoRow.holds Try.pinned (OpenSpec.upto fnExactValidHandingsSpec)

/-- 'laws.FnExactHolderAfter', WHERE WHAT IT READS IS OF BULK AT MOST 1048576: true; the input reads as it did. -/
def fnExactHolderAfterUptoRow : OpenClaim := { program := "ytgcgfcfkbeomdaa", sum := "af312e00088003c03b57edee6372ce60021738157e31f74b06513b6e0539da8d", func := "loop.example/g01312/laws.FnExactHolderAfter", spec := "fnExactHolderAfter", unfollowed := true, recurses := true, apart := false, narrowed := true }
def FnExactHolderAfterUptoSaid : Prop := fnExactHolderAfterUptoRow.holds Try.pinned (OpenSpec.upto fnExactHolderAfterSpec)

/-- 'laws.FnExactKnownTo', WHERE WHAT IT READS IS OF BULK AT MOST 1048576: true; the input reads as it did. -/
def fnExactKnownToUptoRow : OpenClaim := { program := "ytgcgfcfkbeomdaa", sum := "af312e00088003c03b57edee6372ce60021738157e31f74b06513b6e0539da8d", func := "loop.example/g01312/laws.FnExactKnownTo", spec := "fnExactKnownTo", unfollowed := true, recurses := true, apart := false, narrowed := true }
def FnExactKnownToUptoSaid : Prop := fnExactKnownToUptoRow.holds Try.pinned (OpenSpec.upto fnExactKnownToSpec)

/-- 'laws.FnExactSeersAfter', WHERE WHAT IT READS IS OF BULK AT MOST 1048576: true; the input reads as it did. -/
def fnExactSeersAfterUptoRow : OpenClaim := { program := "ytgcgfcfkbeomdaa", sum := "af312e00088003c03b57edee6372ce60021738157e31f74b06513b6e0539da8d", func := "loop.example/g01312/laws.FnExactSeersAfter", spec := "fnExactSeersAfter", unfollowed := true, recurses := true, apart := false, narrowed := true }
def FnExactSeersAfterUptoSaid : Prop := fnExactSeersAfterUptoRow.holds Try.pinned (OpenSpec.upto fnExactSeersAfterSpec)

/-- 'laws.FnExactFirstSight', WHERE WHAT IT READS IS OF BULK AT MOST 1048576: true; the input reads as it did. -/
def fnExactFirstSightUptoRow : OpenClaim := { program := "ytgcgfcfkbeomdaa", sum := "af312e00088003c03b57edee6372ce60021738157e31f74b06513b6e0539da8d", func := "loop.example/g01312/laws.FnExactFirstSight", spec := "fnExactFirstSight", unfollowed := true, recurses := true, apart := false, narrowed := true }
def FnExactFirstSightUptoSaid : Prop := fnExactFirstSightUptoRow.holds Try.pinned (OpenSpec.upto fnExactFirstSightSpec)

end Rows
end Go.Proofs.Ytgcgfcfkbeomdaa
