/-
  No cell of these rows narrows 'for every input' (looked for: loops, veiled, ifaces, maps, wideKeys, modest, calm, conditions, laid).
  DERIVED. THE GIVEN ROWS OF THIS SEAT. 13 by the template 'for every input the law returns true; each argument reads behind the call as it read before'; 0 by the template 'total and deterministic' (their statements: YtajkjhjnbfcpfaaTotals.lean).
  GIVEN WITH THE SEED: the statements are not yours to turn. If you find one false, say at which input.
  Laid BY PROGRAM, IN A SANDBOX (cutbox-rows.mjs): the forced cells as the released guide's own fill.sh prints them over the translation 5e69cd4f24e256d2… (all of the seat's roots in one cut). By AI agents, Wed Nov 11 2026. No macro, syntax, notation, axiom, sorry.
-/
import Derived.Test.YtajkjhjnbfcpfaaChecked
import GoSem.Claim
import GoSem.ClaimJoined
import GoSem.ClaimMapViews
import Derived.JoinedTies
import Derived.KernelRfl
namespace Go.Proofs.Ytajkjhjnbfcpfaa
/- THE CELL 'sum', in the pinned program and in every row, IS THE sha256 OF THE DUMP (.gsa) THAT YtajkjhjnbfcpfaaProg.lean LOADS. Nothing in Lean hashes anything: it is a label: what it is worth is what the hold of that sum in a sandbox is worth. -/
noncomputable def Try.pinned : Pinned := { name := "ytajkjhjnbfcpfaa", sum := "5e69cd4f24e256d229133ff06384031923ae7eb17a079f2cc9726f550a8066bb", checked := Try.checked }
namespace Rows
def none {H : Type} : Left H := { results := [], args := [] }

/-- 'laws.FnExactCoverShown': WHATEVER THE INPUT: true; the input reads as it did. -/
def fnExactCoverShownSpec : ChangeSpec := { name := "fnExactCoverShown", fn := fun _ => fun
  | [d] => { results := [.lit (.bool true)], args := [d] }
  | _ => none }
def fnExactCoverShownRow : OpenClaim := { program := "ytajkjhjnbfcpfaa", sum := "5e69cd4f24e256d229133ff06384031923ae7eb17a079f2cc9726f550a8066bb", func := "loop.example/g01312/laws.FnExactCoverShown", spec := "fnExactCoverShown", unfollowed := true, recurses := true, apart := false }
def FnExactCoverShownSaid : Prop := fnExactCoverShownRow.holds Try.pinned (OpenSpec.ofChange fnExactCoverShownSpec)

/-- ITS FALSE NEIGHBOUR: 'it returns false'. Refute it at one input. -/
def fnExactCoverShownWrong : ChangeSpec := { name := "fnExactCoverShown", fn := fun _ => fun
  | [d] => { results := [.lit (.bool false)], args := [d] }
  | _ => none }
def FnExactCoverShownWrongFalsely : Prop := fnExactCoverShownRow.holds Try.pinned (OpenSpec.ofChange fnExactCoverShownWrong)

/-- 'laws.FnExactShadesShown': WHATEVER THE INPUT: true; the input reads as it did. -/
def fnExactShadesShownSpec : ChangeSpec := { name := "fnExactShadesShown", fn := fun _ => fun
  | [d1, d2] => { results := [.lit (.bool true)], args := [d1, d2] }
  | _ => none }
def fnExactShadesShownRow : OpenClaim := { program := "ytajkjhjnbfcpfaa", sum := "5e69cd4f24e256d229133ff06384031923ae7eb17a079f2cc9726f550a8066bb", func := "loop.example/g01312/laws.FnExactShadesShown", spec := "fnExactShadesShown", apart := false }
def FnExactShadesShownSaid : Prop := fnExactShadesShownRow.holds Try.pinned (OpenSpec.ofChange fnExactShadesShownSpec)

/-- ITS FALSE NEIGHBOUR: 'it returns false'. Refute it at one input. -/
def fnExactShadesShownWrong : ChangeSpec := { name := "fnExactShadesShown", fn := fun _ => fun
  | [d1, d2] => { results := [.lit (.bool false)], args := [d1, d2] }
  | _ => none }
def FnExactShadesShownWrongFalsely : Prop := fnExactShadesShownRow.holds Try.pinned (OpenSpec.ofChange fnExactShadesShownWrong)

/-- 'laws.FnExactTripleLayers': WHATEVER THE INPUT: true; the input reads as it did. -/
def fnExactTripleLayersSpec : ChangeSpec := { name := "fnExactTripleLayers", fn := fun _ => fun
  | [d1, d2, d3] => { results := [.lit (.bool true)], args := [d1, d2, d3] }
  | _ => none }
def fnExactTripleLayersRow : OpenClaim := { program := "ytajkjhjnbfcpfaa", sum := "5e69cd4f24e256d229133ff06384031923ae7eb17a079f2cc9726f550a8066bb", func := "loop.example/g01312/laws.FnExactTripleLayers", spec := "fnExactTripleLayers", unfollowed := true, recurses := true, apart := false }
def FnExactTripleLayersSaid : Prop := fnExactTripleLayersRow.holds Try.pinned (OpenSpec.ofChange fnExactTripleLayersSpec)

/-- ITS FALSE NEIGHBOUR: 'it returns false'. Refute it at one input. -/
def fnExactTripleLayersWrong : ChangeSpec := { name := "fnExactTripleLayers", fn := fun _ => fun
  | [d1, d2, d3] => { results := [.lit (.bool false)], args := [d1, d2, d3] }
  | _ => none }
def FnExactTripleLayersWrongFalsely : Prop := fnExactTripleLayersRow.holds Try.pinned (OpenSpec.ofChange fnExactTripleLayersWrong)

/-- 'laws.FnExactPairShown': WHATEVER THE INPUT: true; the input reads as it did. -/
def fnExactPairShownSpec : ChangeSpec := { name := "fnExactPairShown", fn := fun _ => fun
  | [d1, d2] => { results := [.lit (.bool true)], args := [d1, d2] }
  | _ => none }
def fnExactPairShownRow : OpenClaim := { program := "ytajkjhjnbfcpfaa", sum := "5e69cd4f24e256d229133ff06384031923ae7eb17a079f2cc9726f550a8066bb", func := "loop.example/g01312/laws.FnExactPairShown", spec := "fnExactPairShown", unfollowed := true, recurses := true, apart := false }
def FnExactPairShownSaid : Prop := fnExactPairShownRow.holds Try.pinned (OpenSpec.ofChange fnExactPairShownSpec)

/-- ITS FALSE NEIGHBOUR: 'it returns false'. Refute it at one input. -/
def fnExactPairShownWrong : ChangeSpec := { name := "fnExactPairShown", fn := fun _ => fun
  | [d1, d2] => { results := [.lit (.bool false)], args := [d1, d2] }
  | _ => none }
def FnExactPairShownWrongFalsely : Prop := fnExactPairShownRow.holds Try.pinned (OpenSpec.ofChange fnExactPairShownWrong)

/-- 'laws.FnExactSecretShown': WHATEVER THE INPUT: true; the input reads as it did. -/
def fnExactSecretShownSpec : ChangeSpec := { name := "fnExactSecretShown", fn := fun _ => fun
  | [d1, d2] => { results := [.lit (.bool true)], args := [d1, d2] }
  | _ => none }
def fnExactSecretShownRow : OpenClaim := { program := "ytajkjhjnbfcpfaa", sum := "5e69cd4f24e256d229133ff06384031923ae7eb17a079f2cc9726f550a8066bb", func := "loop.example/g01312/laws.FnExactSecretShown", spec := "fnExactSecretShown", unfollowed := true, recurses := true, apart := false }
def FnExactSecretShownSaid : Prop := fnExactSecretShownRow.holds Try.pinned (OpenSpec.ofChange fnExactSecretShownSpec)

/-- ITS FALSE NEIGHBOUR: 'it returns false'. Refute it at one input. -/
def fnExactSecretShownWrong : ChangeSpec := { name := "fnExactSecretShown", fn := fun _ => fun
  | [d1, d2] => { results := [.lit (.bool false)], args := [d1, d2] }
  | _ => none }
def FnExactSecretShownWrongFalsely : Prop := fnExactSecretShownRow.holds Try.pinned (OpenSpec.ofChange fnExactSecretShownWrong)

/-- 'laws.FnExactCoverLayers': WHATEVER THE INPUT: true; the input reads as it did. -/
def fnExactCoverLayersSpec : ChangeSpec := { name := "fnExactCoverLayers", fn := fun _ => fun
  | [d1, d2, d3, d4] => { results := [.lit (.bool true)], args := [d1, d2, d3, d4] }
  | _ => none }
def fnExactCoverLayersRow : OpenClaim := { program := "ytajkjhjnbfcpfaa", sum := "5e69cd4f24e256d229133ff06384031923ae7eb17a079f2cc9726f550a8066bb", func := "loop.example/g01312/laws.FnExactCoverLayers", spec := "fnExactCoverLayers", unfollowed := true, recurses := true, apart := false }
def FnExactCoverLayersSaid : Prop := fnExactCoverLayersRow.holds Try.pinned (OpenSpec.ofChange fnExactCoverLayersSpec)

/-- ITS FALSE NEIGHBOUR: 'it returns false'. Refute it at one input. -/
def fnExactCoverLayersWrong : ChangeSpec := { name := "fnExactCoverLayers", fn := fun _ => fun
  | [d1, d2, d3, d4] => { results := [.lit (.bool false)], args := [d1, d2, d3, d4] }
  | _ => none }
def FnExactCoverLayersWrongFalsely : Prop := fnExactCoverLayersRow.holds Try.pinned (OpenSpec.ofChange fnExactCoverLayersWrong)

/-- 'laws.FnExactShadeLayers': WHATEVER THE INPUT: true; the input reads as it did. -/
def fnExactShadeLayersSpec : ChangeSpec := { name := "fnExactShadeLayers", fn := fun _ => fun
  | [d1, d2] => { results := [.lit (.bool true)], args := [d1, d2] }
  | _ => none }
def fnExactShadeLayersRow : OpenClaim := { program := "ytajkjhjnbfcpfaa", sum := "5e69cd4f24e256d229133ff06384031923ae7eb17a079f2cc9726f550a8066bb", func := "loop.example/g01312/laws.FnExactShadeLayers", spec := "fnExactShadeLayers", unfollowed := true, recurses := true, apart := false }
def FnExactShadeLayersSaid : Prop := fnExactShadeLayersRow.holds Try.pinned (OpenSpec.ofChange fnExactShadeLayersSpec)

/-- ITS FALSE NEIGHBOUR: 'it returns false'. Refute it at one input. -/
def fnExactShadeLayersWrong : ChangeSpec := { name := "fnExactShadeLayers", fn := fun _ => fun
  | [d1, d2] => { results := [.lit (.bool false)], args := [d1, d2] }
  | _ => none }
def FnExactShadeLayersWrongFalsely : Prop := fnExactShadeLayersRow.holds Try.pinned (OpenSpec.ofChange fnExactShadeLayersWrong)

/-- 'laws.FnExactColourLayers': WHATEVER THE INPUT: true; the input reads as it did. -/
def fnExactColourLayersSpec : ChangeSpec := { name := "fnExactColourLayers", fn := fun _ => fun
  | [d1, d2] => { results := [.lit (.bool true)], args := [d1, d2] }
  | _ => none }
def fnExactColourLayersRow : OpenClaim := { program := "ytajkjhjnbfcpfaa", sum := "5e69cd4f24e256d229133ff06384031923ae7eb17a079f2cc9726f550a8066bb", func := "loop.example/g01312/laws.FnExactColourLayers", spec := "fnExactColourLayers", unfollowed := true, recurses := true, apart := false }
def FnExactColourLayersSaid : Prop := fnExactColourLayersRow.holds Try.pinned (OpenSpec.ofChange fnExactColourLayersSpec)

/-- ITS FALSE NEIGHBOUR: 'it returns false'. Refute it at one input. -/
def fnExactColourLayersWrong : ChangeSpec := { name := "fnExactColourLayers", fn := fun _ => fun
  | [d1, d2] => { results := [.lit (.bool false)], args := [d1, d2] }
  | _ => none }
def FnExactColourLayersWrongFalsely : Prop := fnExactColourLayersRow.holds Try.pinned (OpenSpec.ofChange fnExactColourLayersWrong)

/-- 'laws.FnExactColoursShown': WHATEVER THE INPUT: true; the input reads as it did. -/
def fnExactColoursShownSpec : ChangeSpec := { name := "fnExactColoursShown", fn := fun _ => fun
  | [d] => { results := [.lit (.bool true)], args := [d] }
  | _ => none }
def fnExactColoursShownRow : OpenClaim := { program := "ytajkjhjnbfcpfaa", sum := "5e69cd4f24e256d229133ff06384031923ae7eb17a079f2cc9726f550a8066bb", func := "loop.example/g01312/laws.FnExactColoursShown", spec := "fnExactColoursShown", unfollowed := true, recurses := true, apart := false }
def FnExactColoursShownSaid : Prop := fnExactColoursShownRow.holds Try.pinned (OpenSpec.ofChange fnExactColoursShownSpec)

/-- ITS FALSE NEIGHBOUR: 'it returns false'. Refute it at one input. -/
def fnExactColoursShownWrong : ChangeSpec := { name := "fnExactColoursShown", fn := fun _ => fun
  | [d] => { results := [.lit (.bool false)], args := [d] }
  | _ => none }
def FnExactColoursShownWrongFalsely : Prop := fnExactColoursShownRow.holds Try.pinned (OpenSpec.ofChange fnExactColoursShownWrong)

/-- 'laws.FnExactCheckCovers': WHATEVER THE INPUT: true; the input reads as it did. -/
def fnExactCheckCoversSpec : ChangeSpec := { name := "fnExactCheckCovers", fn := fun _ => fun
  | [d1, d2] => { results := [.lit (.bool true)], args := [d1, d2] }
  | _ => none }
def fnExactCheckCoversRow : OpenClaim := { program := "ytajkjhjnbfcpfaa", sum := "5e69cd4f24e256d229133ff06384031923ae7eb17a079f2cc9726f550a8066bb", func := "loop.example/g01312/laws.FnExactCheckCovers", spec := "fnExactCheckCovers", unfollowed := true, recurses := true, apart := false }
def FnExactCheckCoversSaid : Prop := fnExactCheckCoversRow.holds Try.pinned (OpenSpec.ofChange fnExactCheckCoversSpec)

/-- ITS FALSE NEIGHBOUR: 'it returns false'. Refute it at one input. -/
def fnExactCheckCoversWrong : ChangeSpec := { name := "fnExactCheckCovers", fn := fun _ => fun
  | [d1, d2] => { results := [.lit (.bool false)], args := [d1, d2] }
  | _ => none }
def FnExactCheckCoversWrongFalsely : Prop := fnExactCheckCoversRow.holds Try.pinned (OpenSpec.ofChange fnExactCheckCoversWrong)

/-- 'laws.FnTriples': WHATEVER THE INPUT: true; the input reads as it did. -/
def fnTriplesSpec : ChangeSpec := { name := "fnTriples", fn := fun _ => fun
  | [d1, d2] => { results := [.lit (.bool true)], args := [d1, d2] }
  | _ => none }
def fnTriplesRow : OpenClaim := { program := "ytajkjhjnbfcpfaa", sum := "5e69cd4f24e256d229133ff06384031923ae7eb17a079f2cc9726f550a8066bb", func := "loop.example/g01312/laws.FnTriples", spec := "fnTriples", unfollowed := true, recurses := true, apart := false }
def FnTriplesSaid : Prop := fnTriplesRow.holds Try.pinned (OpenSpec.ofChange fnTriplesSpec)

/-- ITS FALSE NEIGHBOUR: 'it returns false'. Refute it at one input. -/
def fnTriplesWrong : ChangeSpec := { name := "fnTriples", fn := fun _ => fun
  | [d1, d2] => { results := [.lit (.bool false)], args := [d1, d2] }
  | _ => none }
def FnTriplesWrongFalsely : Prop := fnTriplesRow.holds Try.pinned (OpenSpec.ofChange fnTriplesWrong)

/-- 'laws.FnCovers': WHATEVER THE INPUT: true; the input reads as it did. -/
def fnCoversSpec : ChangeSpec := { name := "fnCovers", fn := fun _ => fun
  | [d1, d2] => { results := [.lit (.bool true)], args := [d1, d2] }
  | _ => none }
def fnCoversRow : OpenClaim := { program := "ytajkjhjnbfcpfaa", sum := "5e69cd4f24e256d229133ff06384031923ae7eb17a079f2cc9726f550a8066bb", func := "loop.example/g01312/laws.FnCovers", spec := "fnCovers", unfollowed := true, recurses := true, apart := false }
def FnCoversSaid : Prop := fnCoversRow.holds Try.pinned (OpenSpec.ofChange fnCoversSpec)

/-- ITS FALSE NEIGHBOUR: 'it returns false'. Refute it at one input. -/
def fnCoversWrong : ChangeSpec := { name := "fnCovers", fn := fun _ => fun
  | [d1, d2] => { results := [.lit (.bool false)], args := [d1, d2] }
  | _ => none }
def FnCoversWrongFalsely : Prop := fnCoversRow.holds Try.pinned (OpenSpec.ofChange fnCoversWrong)

/-- 'laws.FnShades': WHATEVER THE INPUT: true; the input reads as it did. -/
def fnShadesSpec : ChangeSpec := { name := "fnShades", fn := fun _ => fun
  | [d1, d2] => { results := [.lit (.bool true)], args := [d1, d2] }
  | _ => none }
def fnShadesRow : OpenClaim := { program := "ytajkjhjnbfcpfaa", sum := "5e69cd4f24e256d229133ff06384031923ae7eb17a079f2cc9726f550a8066bb", func := "loop.example/g01312/laws.FnShades", spec := "fnShades", unfollowed := true, recurses := true, apart := false }
def FnShadesSaid : Prop := fnShadesRow.holds Try.pinned (OpenSpec.ofChange fnShadesSpec)

/-- ITS FALSE NEIGHBOUR: 'it returns false'. Refute it at one input. -/
def fnShadesWrong : ChangeSpec := { name := "fnShades", fn := fun _ => fun
  | [d1, d2] => { results := [.lit (.bool false)], args := [d1, d2] }
  | _ => none }
def FnShadesWrongFalsely : Prop := fnShadesRow.holds Try.pinned (OpenSpec.ofChange fnShadesWrong)

/- THE SECOND FORM. 'bulk': how many values and letters a reading holds, each counted each time it is reached (what is shared counts as often as it is met; a slice's spare places count too). A statement '..UptoSaid' is the law's where the arguments, and the package variables that the reading takes, are together of bulk at most 1048576: NARROWER than '..Said'. Prove '..Said' where nothing that the law and all that it calls make is longer than what came in: it says more and counts as full. Else prove '..UptoSaid'. A law counts once. -/
mutual
def uptoBulk {H : Type} : DataW H → Nat
  | .lit (.string bytes) => bytes.length + 1
  | .lit _ => 1
  | .nil => 1
  | .ptr d => uptoBulk d + 1
  | .slice elems spare => uptoBulkAll elems + uptoBulkAll spare + 1
  | .agg parts => uptoBulkAll parts + 1
  | .iface _ d => uptoBulk d + 1
  | .map entries => uptoBulkEntries entries + 1
  | .held _ => 1
def uptoBulkAll {H : Type} : List (DataW H) → Nat
  | [] => 0
  | d :: r => uptoBulk d + uptoBulkAll r
def uptoBulkEntries {H : Type} : List (Lit × DataW H) → Nat
  | [] => 0
  | x :: r => uptoBulkEntry x + uptoBulkEntries r
def uptoBulkEntry {H : Type} : Lit × DataW H → Nat
  | (.string bytes, d) => bytes.length + uptoBulk d + 1
  | (_, d) => uptoBulk d + 1
 end
def uptoSmall : (H : Type) → List (DataW H) → Bool := fun _ ds => decide (uptoBulkAll ds ≤ 1048576)
def OpenSpec.upto (s : _root_.Go.ChangeSpec) : _root_.Go.OpenSpec := { _root_.Go.OpenSpec.ofChange s with cond := some uptoSmall }

/-- 'laws.FnExactCoverShown', WHERE WHAT IT READS IS OF BULK AT MOST 1048576: true; the input reads as it did. -/
def fnExactCoverShownUptoRow : OpenClaim := { program := "ytajkjhjnbfcpfaa", sum := "5e69cd4f24e256d229133ff06384031923ae7eb17a079f2cc9726f550a8066bb", func := "loop.example/g01312/laws.FnExactCoverShown", spec := "fnExactCoverShown", unfollowed := true, recurses := true, apart := false, narrowed := true }
def FnExactCoverShownUptoSaid : Prop := fnExactCoverShownUptoRow.holds Try.pinned (OpenSpec.upto fnExactCoverShownSpec)

/-- 'laws.FnExactShadesShown', WHERE WHAT IT READS IS OF BULK AT MOST 1048576: true; the input reads as it did. -/
def fnExactShadesShownUptoRow : OpenClaim := { program := "ytajkjhjnbfcpfaa", sum := "5e69cd4f24e256d229133ff06384031923ae7eb17a079f2cc9726f550a8066bb", func := "loop.example/g01312/laws.FnExactShadesShown", spec := "fnExactShadesShown", apart := false, narrowed := true }
def FnExactShadesShownUptoSaid : Prop := fnExactShadesShownUptoRow.holds Try.pinned (OpenSpec.upto fnExactShadesShownSpec)

/-- 'laws.FnExactTripleLayers', WHERE WHAT IT READS IS OF BULK AT MOST 1048576: true; the input reads as it did. -/
def fnExactTripleLayersUptoRow : OpenClaim := { program := "ytajkjhjnbfcpfaa", sum := "5e69cd4f24e256d229133ff06384031923ae7eb17a079f2cc9726f550a8066bb", func := "loop.example/g01312/laws.FnExactTripleLayers", spec := "fnExactTripleLayers", unfollowed := true, recurses := true, apart := false, narrowed := true }
def FnExactTripleLayersUptoSaid : Prop := fnExactTripleLayersUptoRow.holds Try.pinned (OpenSpec.upto fnExactTripleLayersSpec)

/-- 'laws.FnExactPairShown', WHERE WHAT IT READS IS OF BULK AT MOST 1048576: true; the input reads as it did. -/
def fnExactPairShownUptoRow : OpenClaim := { program := "ytajkjhjnbfcpfaa", sum := "5e69cd4f24e256d229133ff06384031923ae7eb17a079f2cc9726f550a8066bb", func := "loop.example/g01312/laws.FnExactPairShown", spec := "fnExactPairShown", unfollowed := true, recurses := true, apart := false, narrowed := true }
def FnExactPairShownUptoSaid : Prop := fnExactPairShownUptoRow.holds Try.pinned (OpenSpec.upto fnExactPairShownSpec)

/-- 'laws.FnExactSecretShown', WHERE WHAT IT READS IS OF BULK AT MOST 1048576: true; the input reads as it did. -/
def fnExactSecretShownUptoRow : OpenClaim := { program := "ytajkjhjnbfcpfaa", sum := "5e69cd4f24e256d229133ff06384031923ae7eb17a079f2cc9726f550a8066bb", func := "loop.example/g01312/laws.FnExactSecretShown", spec := "fnExactSecretShown", unfollowed := true, recurses := true, apart := false, narrowed := true }
def FnExactSecretShownUptoSaid : Prop := fnExactSecretShownUptoRow.holds Try.pinned (OpenSpec.upto fnExactSecretShownSpec)

/-- 'laws.FnExactCoverLayers', WHERE WHAT IT READS IS OF BULK AT MOST 1048576: true; the input reads as it did. -/
def fnExactCoverLayersUptoRow : OpenClaim := { program := "ytajkjhjnbfcpfaa", sum := "5e69cd4f24e256d229133ff06384031923ae7eb17a079f2cc9726f550a8066bb", func := "loop.example/g01312/laws.FnExactCoverLayers", spec := "fnExactCoverLayers", unfollowed := true, recurses := true, apart := false, narrowed := true }
def FnExactCoverLayersUptoSaid : Prop := fnExactCoverLayersUptoRow.holds Try.pinned (OpenSpec.upto fnExactCoverLayersSpec)

/-- 'laws.FnExactShadeLayers', WHERE WHAT IT READS IS OF BULK AT MOST 1048576: true; the input reads as it did. -/
def fnExactShadeLayersUptoRow : OpenClaim := { program := "ytajkjhjnbfcpfaa", sum := "5e69cd4f24e256d229133ff06384031923ae7eb17a079f2cc9726f550a8066bb", func := "loop.example/g01312/laws.FnExactShadeLayers", spec := "fnExactShadeLayers", unfollowed := true, recurses := true, apart := false, narrowed := true }
def FnExactShadeLayersUptoSaid : Prop := fnExactShadeLayersUptoRow.holds Try.pinned (OpenSpec.upto fnExactShadeLayersSpec)

/-- 'laws.FnExactColourLayers', WHERE WHAT IT READS IS OF BULK AT MOST 1048576: true; the input reads as it did. -/
def fnExactColourLayersUptoRow : OpenClaim := { program := "ytajkjhjnbfcpfaa", sum := "5e69cd4f24e256d229133ff06384031923ae7eb17a079f2cc9726f550a8066bb", func := "loop.example/g01312/laws.FnExactColourLayers", spec := "fnExactColourLayers", unfollowed := true, recurses := true, apart := false, narrowed := true }
def FnExactColourLayersUptoSaid : Prop := fnExactColourLayersUptoRow.holds Try.pinned (OpenSpec.upto fnExactColourLayersSpec)

/-- 'laws.FnExactColoursShown', WHERE WHAT IT READS IS OF BULK AT MOST 1048576: true; the input reads as it did. -/
def fnExactColoursShownUptoRow : OpenClaim := { program := "ytajkjhjnbfcpfaa", sum := "5e69cd4f24e256d229133ff06384031923ae7eb17a079f2cc9726f550a8066bb", func := "loop.example/g01312/laws.FnExactColoursShown", spec := "fnExactColoursShown", unfollowed := true, recurses := true, apart := false, narrowed := true }
def FnExactColoursShownUptoSaid : Prop := fnExactColoursShownUptoRow.holds Try.pinned (OpenSpec.upto fnExactColoursShownSpec)

/-- 'laws.FnExactCheckCovers', WHERE WHAT IT READS IS OF BULK AT MOST 1048576: true; the input reads as it did. -/
def fnExactCheckCoversUptoRow : OpenClaim := { program := "ytajkjhjnbfcpfaa", sum := "5e69cd4f24e256d229133ff06384031923ae7eb17a079f2cc9726f550a8066bb", func := "loop.example/g01312/laws.FnExactCheckCovers", spec := "fnExactCheckCovers", unfollowed := true, recurses := true, apart := false, narrowed := true }
def FnExactCheckCoversUptoSaid : Prop := fnExactCheckCoversUptoRow.holds Try.pinned (OpenSpec.upto fnExactCheckCoversSpec)

/-- 'laws.FnTriples', WHERE WHAT IT READS IS OF BULK AT MOST 1048576: true; the input reads as it did. -/
def fnTriplesUptoRow : OpenClaim := { program := "ytajkjhjnbfcpfaa", sum := "5e69cd4f24e256d229133ff06384031923ae7eb17a079f2cc9726f550a8066bb", func := "loop.example/g01312/laws.FnTriples", spec := "fnTriples", unfollowed := true, recurses := true, apart := false, narrowed := true }
def FnTriplesUptoSaid : Prop := fnTriplesUptoRow.holds Try.pinned (OpenSpec.upto fnTriplesSpec)

/-- 'laws.FnCovers', WHERE WHAT IT READS IS OF BULK AT MOST 1048576: true; the input reads as it did. -/
def fnCoversUptoRow : OpenClaim := { program := "ytajkjhjnbfcpfaa", sum := "5e69cd4f24e256d229133ff06384031923ae7eb17a079f2cc9726f550a8066bb", func := "loop.example/g01312/laws.FnCovers", spec := "fnCovers", unfollowed := true, recurses := true, apart := false, narrowed := true }
def FnCoversUptoSaid : Prop := fnCoversUptoRow.holds Try.pinned (OpenSpec.upto fnCoversSpec)

/-- 'laws.FnShades', WHERE WHAT IT READS IS OF BULK AT MOST 1048576: true; the input reads as it did. -/
def fnShadesUptoRow : OpenClaim := { program := "ytajkjhjnbfcpfaa", sum := "5e69cd4f24e256d229133ff06384031923ae7eb17a079f2cc9726f550a8066bb", func := "loop.example/g01312/laws.FnShades", spec := "fnShades", unfollowed := true, recurses := true, apart := false, narrowed := true }
def FnShadesUptoSaid : Prop := fnShadesUptoRow.holds Try.pinned (OpenSpec.upto fnShadesSpec)

end Rows
end Go.Proofs.Ytajkjhjnbfcpfaa
