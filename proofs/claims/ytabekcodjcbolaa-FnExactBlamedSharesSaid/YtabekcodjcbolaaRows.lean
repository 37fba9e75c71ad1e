/-
  No cell of these rows narrows 'for every input' (looked for: loops, veiled, ifaces, maps, wideKeys, modest, calm, conditions, laid).
  DERIVED. THE GIVEN ROWS OF THIS SEAT. 5 by the template 'for every input the law returns true; each argument reads behind the call as it read before'; 0 by the template 'total and deterministic' (their statements: YtabekcodjcbolaaTotals.lean).
  GIVEN WITH THE SEED: the statements are not yours to turn. If you find one false, say at which input.
  Laid BY PROGRAM, IN A SANDBOX (cutbox-rows.mjs): the forced cells as the released guide's own fill.sh prints them over the translation 32ac6a22aee09590… (all of the seat's roots in one cut). By AI agents, Wed Nov 11 2026. No macro, syntax, notation, axiom, sorry.
-/
import Derived.Test.YtabekcodjcbolaaChecked
import GoSem.Claim
import GoSem.ClaimJoined
import GoSem.ClaimMapViews
import Derived.JoinedTies
import Derived.KernelRfl
namespace Go.Proofs.Ytabekcodjcbolaa
/- THE CELL 'sum', in the pinned program and in every row, IS THE sha256 OF THE DUMP (.gsa) THAT YtabekcodjcbolaaProg.lean LOADS. Nothing in Lean hashes anything: it is a label: what it is worth is what the hold of that sum in a sandbox is worth. -/
noncomputable def Try.pinned : Pinned := { name := "ytabekcodjcbolaa", sum := "32ac6a22aee095907b617889681ade8c3bcfc204007932fef6eabf07e0d23297", checked := Try.checked }
namespace Rows
def none {H : Type} : Left H := { results := [], args := [] }

/-- 'laws.FnExactWrongCells': WHATEVER THE INPUT: true; the input reads as it did. -/
def fnExactWrongCellsSpec : ChangeSpec := { name := "fnExactWrongCells", fn := fun _ => fun
  | [d1, d2, d3] => { results := [.lit (.bool true)], args := [d1, d2, d3] }
  | _ => none }
def fnExactWrongCellsRow : OpenClaim := { program := "ytabekcodjcbolaa", sum := "32ac6a22aee095907b617889681ade8c3bcfc204007932fef6eabf07e0d23297", func := "loop.example/g01312/laws.FnExactWrongCells", spec := "fnExactWrongCells", unfollowed := true, recurses := true, apart := false }
def FnExactWrongCellsSaid : Prop := fnExactWrongCellsRow.holds Try.pinned (OpenSpec.ofChange fnExactWrongCellsSpec)

/-- ITS FALSE NEIGHBOUR: 'it returns false'. Refute it at one input. -/
def fnExactWrongCellsWrong : ChangeSpec := { name := "fnExactWrongCells", fn := fun _ => fun
  | [d1, d2, d3] => { results := [.lit (.bool false)], args := [d1, d2, d3] }
  | _ => none }
def FnExactWrongCellsWrongFalsely : Prop := fnExactWrongCellsRow.holds Try.pinned (OpenSpec.ofChange fnExactWrongCellsWrong)

/-- 'laws.FnExactSureCells': WHATEVER THE INPUT: true; the input reads as it did. -/
def fnExactSureCellsSpec : ChangeSpec := { name := "fnExactSureCells", fn := fun _ => fun
  | [d1, d2, d3, d4] => { results := [.lit (.bool true)], args := [d1, d2, d3, d4] }
  | _ => none }
def fnExactSureCellsRow : OpenClaim := { program := "ytabekcodjcbolaa", sum := "32ac6a22aee095907b617889681ade8c3bcfc204007932fef6eabf07e0d23297", func := "loop.example/g01312/laws.FnExactSureCells", spec := "fnExactSureCells", unfollowed := true, recurses := true, apart := false }
def FnExactSureCellsSaid : Prop := fnExactSureCellsRow.holds Try.pinned (OpenSpec.ofChange fnExactSureCellsSpec)

/-- ITS FALSE NEIGHBOUR: 'it returns false'. Refute it at one input. -/
def fnExactSureCellsWrong : ChangeSpec := { name := "fnExactSureCells", fn := fun _ => fun
  | [d1, d2, d3, d4] => { results := [.lit (.bool false)], args := [d1, d2, d3, d4] }
  | _ => none }
def FnExactSureCellsWrongFalsely : Prop := fnExactSureCellsRow.holds Try.pinned (OpenSpec.ofChange fnExactSureCellsWrong)

/-- 'laws.FnExactPossibleCells': WHATEVER THE INPUT: true; the input reads as it did. -/
def fnExactPossibleCellsSpec : ChangeSpec := { name := "fnExactPossibleCells", fn := fun _ => fun
  | [d1, d2, d3, d4, d5] => { results := [.lit (.bool true)], args := [d1, d2, d3, d4, d5] }
  | _ => none }
def fnExactPossibleCellsRow : OpenClaim := { program := "ytabekcodjcbolaa", sum := "32ac6a22aee095907b617889681ade8c3bcfc204007932fef6eabf07e0d23297", func := "loop.example/g01312/laws.FnExactPossibleCells", spec := "fnExactPossibleCells", unfollowed := true, recurses := true, apart := false }
def FnExactPossibleCellsSaid : Prop := fnExactPossibleCellsRow.holds Try.pinned (OpenSpec.ofChange fnExactPossibleCellsSpec)

/-- ITS FALSE NEIGHBOUR: 'it returns false'. Refute it at one input. -/
def fnExactPossibleCellsWrong : ChangeSpec := { name := "fnExactPossibleCells", fn := fun _ => fun
  | [d1, d2, d3, d4, d5] => { results := [.lit (.bool false)], args := [d1, d2, d3, d4, d5] }
  | _ => none }
def FnExactPossibleCellsWrongFalsely : Prop := fnExactPossibleCellsRow.holds Try.pinned (OpenSpec.ofChange fnExactPossibleCellsWrong)

/-- 'laws.FnExactRepairLayer': WHATEVER THE INPUT: true; the input reads as it did. -/
def fnExactRepairLayerSpec : ChangeSpec := { name := "fnExactRepairLayer", fn := fun _ => fun
  | [d1, d2, d3, d4] => { results := [.lit (.bool true)], args := [d1, d2, d3, d4] }
  | _ => none }
def fnExactRepairLayerRow : OpenClaim := { program := "ytabekcodjcbolaa", sum := "32ac6a22aee095907b617889681ade8c3bcfc204007932fef6eabf07e0d23297", func := "loop.example/g01312/laws.FnExactRepairLayer", spec := "fnExactRepairLayer", unfollowed := true, recurses := true, apart := false }
def FnExactRepairLayerSaid : Prop := fnExactRepairLayerRow.holds Try.pinned (OpenSpec.ofChange fnExactRepairLayerSpec)

/-- ITS FALSE NEIGHBOUR: 'it returns false'. Refute it at one input. -/
def fnExactRepairLayerWrong : ChangeSpec := { name := "fnExactRepairLayer", fn := fun _ => fun
  | [d1, d2, d3, d4] => { results := [.lit (.bool false)], args := [d1, d2, d3, d4] }
  | _ => none }
def FnExactRepairLayerWrongFalsely : Prop := fnExactRepairLayerRow.holds Try.pinned (OpenSpec.ofChange fnExactRepairLayerWrong)

/-- 'laws.FnExactBlamedShares': WHATEVER THE INPUT: true; the input reads as it did. -/
def fnExactBlamedSharesSpec : ChangeSpec := { name := "fnExactBlamedShares", fn := fun _ => fun
  | [d1, d2, d3] => { results := [.lit (.bool true)], args := [d1, d2, d3] }
  | _ => none }
def fnExactBlamedSharesRow : OpenClaim := { program := "ytabekcodjcbolaa", sum := "32ac6a22aee095907b617889681ade8c3bcfc204007932fef6eabf07e0d23297", func := "loop.example/g01312/laws.FnExactBlamedShares", spec := "fnExactBlamedShares", unfollowed := true, recurses := true, apart := false }
def FnExactBlamedSharesSaid : Prop := fnExactBlamedSharesRow.holds Try.pinned (OpenSpec.ofChange fnExactBlamedSharesSpec)

/-- ITS FALSE NEIGHBOUR: 'it returns false'. Refute it at one input. -/
def fnExactBlamedSharesWrong : ChangeSpec := { name := "fnExactBlamedShares", fn := fun _ => fun
  | [d1, d2, d3] => { results := [.lit (.bool false)], args := [d1, d2, d3] }
  | _ => none }
def FnExactBlamedSharesWrongFalsely : Prop := fnExactBlamedSharesRow.holds Try.pinned (OpenSpec.ofChange fnExactBlamedSharesWrong)

/- THE SECOND FORM. 'bulk': how many values and letters a reading holds, each counted each time it is reached (what is shared counts as often as it is met; a slice's spare places count too). A statement '..UptoSaid' is the law's where the arguments, and the package variables that the reading takes, are together of bulk at most 1048576: NARROWER than '..Said'. Prove '..Said' where nothing that the law and all that it calls make is longer than what came in: it says more and counts as full. Else prove '..UptoSaid'. A law counts once. -/
mutual
def uptoBulk {H : Type} : DataW H → Nat
  | .lit (.string bytes) => bytes.length + 1
  | .lit _ => 1
  | .nil => 1
  | .ptr d => uptoBulk d + 1
  | .slice elems spare => uptoBulkAll elems + uptoBulkAll spare + 1
  | .agg parts => uptoBulkAll parts + 1
  | .iface _ d => uptoBulk d + 1
  | .map entries => uptoBulkEntries entries + 1
  | .held _ => 1
def uptoBulkAll {H : Type} : List (DataW H) → Nat
  | [] => 0
  | d :: r => uptoBulk d + uptoBulkAll r
def uptoBulkEntries {H : Type} : List (Lit × DataW H) → Nat
  | [] => 0
  | x :: r => uptoBulkEntry x + uptoBulkEntries r
def uptoBulkEntry {H : Type} : Lit × DataW H → Nat
  | (.string bytes, d) => bytes.length + uptoBulk d + 1
  | (_, d) => uptoBulk d + 1
 end
def uptoSmall : (H : Type) → List (DataW H) → Bool := fun _ ds => decide (uptoBulkAll ds ≤ 1048576)
def OpenSpec.upto (s : _root_.Go.ChangeSpec) : _root_.Go.OpenSpec := { _root_.Go.OpenSpec.ofChange s with cond := some uptoSmall }

/-- 'laws.FnExactWrongCells', WHERE WHAT IT READS IS OF BULK AT MOST 1048576: true; the input reads as it did. -/
def fnExactWrongCellsUptoRow : OpenClaim := { program := "ytabekcodjcbolaa", sum := "32ac6a22aee095907b617889681ade8c3bcfc204007932fef6eabf07e0d23297", func := "loop.example/g01312/laws.FnExactWrongCells", spec := "fnExactWrongCells", unfollowed := true, recurses := true, apart := false, narrowed := true }
def FnExactWrongCellsUptoSaid : Prop := fnExactWrongCellsUptoRow.holds Try.pinned (OpenSpec.upto fnExactWrongCellsSpec)

/-- 'laws.FnExactSureCells', WHERE WHAT IT READS IS OF BULK AT MOST 1048576: true; the input reads as it did. -/
def fnExactSureCellsUptoRow : OpenClaim := { program := "ytabekcodjcbolaa", sum := "32ac6a22aee095907b617889681ade8c3bcfc204007932fef6eabf07e0d23297", func := "loop.example/g01312/laws.FnExactSureCells", spec := "fnExactSureCells", unfollowed := true, recurses := true, apart := false, narrowed := true }
def FnExactSureCellsUptoSaid : Prop := fnExactSureCellsUptoRow.holds Try.pinned (OpenSpec.upto fnExactSureCellsSpec)

/-- 'laws.FnExactPossibleCells', WHERE WHAT IT READS IS OF BULK AT MOST 1048576: true; the input reads as it did. -/
def fnExactPossibleCellsUptoRow : OpenClaim := { program := "ytabekcodjcbolaa", sum := "32ac6a22aee095907b617889681ade8c3bcfc204007932fef6eabf07e0d23297", func := "loop.example/g01312/laws.FnExactPossibleCells", spec := "fnExactPossibleCells", unfollowed := true, recurses := true, apart := false, narrowed := true }
def FnExactPossibleCellsUptoSaid : Prop := fnExactPossibleCellsUptoRow.holds Try.pinned (OpenSpec.upto fnExactPossibleCellsSpec)

/-- 'laws.FnExactRepairLayer', WHERE WHAT IT READS IS OF BULK AT MOST 1048576: true; the input reads as it did. -/
def fnExactRepairLayerUptoRow : OpenClaim := { program := "ytabekcodjcbolaa", sum := "32ac6a22aee095907b617889681ade8c3bcfc204007932fef6eabf07e0d23297", func := "loop.example/g01312/laws.FnExactRepairLayer", spec := "fnExactRepairLayer", unfollowed := true, recurses := true, apart := false, narrowed := true }
def FnExactRepairLayerUptoSaid : Prop := fnExactRepairLayerUptoRow.holds Try.pinned (OpenSpec.upto fnExactRepairLayerSpec)

/-- 'laws.FnExactBlamedShares', WHERE WHAT IT READS IS OF BULK AT MOST 1048576: true; the input reads as it did. -/
def fnExactBlamedSharesUptoRow : OpenClaim := { program := "ytabekcodjcbolaa", sum := "32ac6a22aee095907b617889681ade8c3bcfc204007932fef6eabf07e0d23297", func := "loop.example/g01312/laws.FnExactBlamedShares", spec := "fnExactBlamedShares", unfollowed := true, recurses := true, apart := false, narrowed := true }
def FnExactBlamedSharesUptoSaid : Prop := fnExactBlamedSharesUptoRow.holds Try.pinned (OpenSpec.upto fnExactBlamedSharesSpec)

end Rows
end Go.Proofs.Ytabekcodjcbolaa
