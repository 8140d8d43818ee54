/-
  No cell of these rows narrows 'for every input' (looked for: loops, veiled, ifaces, maps, wideKeys, modest, calm, conditions, laid).
  DERIVED. THE GIVEN ROWS OF THIS SEAT. 12 by the template 'for every input the law returns true; each argument reads behind the call as it read before'; 0 by the template 'total and deterministic' (their statements: YtpcnfkamlfplmaaTotals.lean).
  GIVEN WITH THE SEED: the statements are not yours to turn. If you find one false, say at which input.
  Laid BY PROGRAM, IN A SANDBOX (cutbox-rows.mjs): the forced cells as the released guide's own fill.sh prints them over the translation c27992987ac0de7b… (all of the seat's roots in one cut). By AI agents, Wed Nov 11 2026. No macro, syntax, notation, axiom, sorry.
-/
import Derived.Test.YtpcnfkamlfplmaaChecked
import GoSem.Claim
import GoSem.ClaimJoined
import GoSem.ClaimMapViews
import Derived.JoinedTies
import Derived.KernelRfl
namespace Go.Proofs.Ytpcnfkamlfplmaa
/- THE CELL 'sum', in the pinned program and in every row, IS THE sha256 OF THE DUMP (.gsa) THAT YtpcnfkamlfplmaaProg.lean LOADS. Nothing in Lean hashes anything: it is a label: what it is worth is what the hold of that sum in a sandbox is worth. -/
noncomputable def Try.pinned : Pinned := { name := "ytpcnfkamlfplmaa", sum := "c27992987ac0de7b6073dbb99646cdf1c14d76bcbcaf34549b1d6156f702b176", checked := Try.checked }
namespace Rows
def none {H : Type} : Left H := { results := [], args := [] }

/-- 'laws.FnExactSpreadOf': WHATEVER THE INPUT: true; the input reads as it did. -/
def fnExactSpreadOfSpec : ChangeSpec := { name := "fnExactSpreadOf", fn := fun _ => fun
  | [d] => { results := [.lit (.bool true)], args := [d] }
  | _ => none }
def fnExactSpreadOfRow : OpenClaim := { program := "ytpcnfkamlfplmaa", sum := "c27992987ac0de7b6073dbb99646cdf1c14d76bcbcaf34549b1d6156f702b176", func := "loop.example/g01005/laws.FnExactSpreadOf", spec := "fnExactSpreadOf", unfollowed := true, recurses := true, apart := false }
def FnExactSpreadOfSaid : Prop := fnExactSpreadOfRow.holds Try.pinned (OpenSpec.ofChange fnExactSpreadOfSpec)

/-- ITS FALSE NEIGHBOUR: 'it returns false'. Refute it at one input. -/
def fnExactSpreadOfWrong : ChangeSpec := { name := "fnExactSpreadOf", fn := fun _ => fun
  | [d] => { results := [.lit (.bool false)], args := [d] }
  | _ => none }
def FnExactSpreadOfWrongFalsely : Prop := fnExactSpreadOfRow.holds Try.pinned (OpenSpec.ofChange fnExactSpreadOfWrong)

/-- 'laws.FnExactSameNetwork': WHATEVER THE INPUT: true; the input reads as it did. -/
def fnExactSameNetworkSpec : ChangeSpec := { name := "fnExactSameNetwork", fn := fun _ => fun
  | [d1, d2] => { results := [.lit (.bool true)], args := [d1, d2] }
  | _ => none }
def fnExactSameNetworkRow : OpenClaim := { program := "ytpcnfkamlfplmaa", sum := "c27992987ac0de7b6073dbb99646cdf1c14d76bcbcaf34549b1d6156f702b176", func := "loop.example/g01005/laws.FnExactSameNetwork", spec := "fnExactSameNetwork", apart := false }
def FnExactSameNetworkSaid : Prop := fnExactSameNetworkRow.holds Try.pinned (OpenSpec.ofChange fnExactSameNetworkSpec)

/-- ITS FALSE NEIGHBOUR: 'it returns false'. Refute it at one input. -/
def fnExactSameNetworkWrong : ChangeSpec := { name := "fnExactSameNetwork", fn := fun _ => fun
  | [d1, d2] => { results := [.lit (.bool false)], args := [d1, d2] }
  | _ => none }
def FnExactSameNetworkWrongFalsely : Prop := fnExactSameNetworkRow.holds Try.pinned (OpenSpec.ofChange fnExactSameNetworkWrong)

/-- 'laws.FnExactSameTable': WHATEVER THE INPUT: true; the input reads as it did. -/
def fnExactSameTableSpec : ChangeSpec := { name := "fnExactSameTable", fn := fun _ => fun
  | [d1, d2] => { results := [.lit (.bool true)], args := [d1, d2] }
  | _ => none }
def fnExactSameTableRow : OpenClaim := { program := "ytpcnfkamlfplmaa", sum := "c27992987ac0de7b6073dbb99646cdf1c14d76bcbcaf34549b1d6156f702b176", func := "loop.example/g01005/laws.FnExactSameTable", spec := "fnExactSameTable", unfollowed := true, recurses := true, apart := false }
def FnExactSameTableSaid : Prop := fnExactSameTableRow.holds Try.pinned (OpenSpec.ofChange fnExactSameTableSpec)

/-- ITS FALSE NEIGHBOUR: 'it returns false'. Refute it at one input. -/
def fnExactSameTableWrong : ChangeSpec := { name := "fnExactSameTable", fn := fun _ => fun
  | [d1, d2] => { results := [.lit (.bool false)], args := [d1, d2] }
  | _ => none }
def FnExactSameTableWrongFalsely : Prop := fnExactSameTableRow.holds Try.pinned (OpenSpec.ofChange fnExactSameTableWrong)

/-- 'laws.FnExactValidNetwork': WHATEVER THE INPUT: true; the input reads as it did. -/
def fnExactValidNetworkSpec : ChangeSpec := { name := "fnExactValidNetwork", fn := fun _ => fun
  | [d] => { results := [.lit (.bool true)], args := [d] }
  | _ => none }
def fnExactValidNetworkRow : OpenClaim := { program := "ytpcnfkamlfplmaa", sum := "c27992987ac0de7b6073dbb99646cdf1c14d76bcbcaf34549b1d6156f702b176", func := "loop.example/g01005/laws.FnExactValidNetwork", spec := "fnExactValidNetwork", apart := false }
def FnExactValidNetworkSaid : Prop := fnExactValidNetworkRow.holds Try.pinned (OpenSpec.ofChange fnExactValidNetworkSpec)

/-- ITS FALSE NEIGHBOUR: 'it returns false'. Refute it at one input. -/
def fnExactValidNetworkWrong : ChangeSpec := { name := "fnExactValidNetwork", fn := fun _ => fun
  | [d] => { results := [.lit (.bool false)], args := [d] }
  | _ => none }
def FnExactValidNetworkWrongFalsely : Prop := fnExactValidNetworkRow.holds Try.pinned (OpenSpec.ofChange fnExactValidNetworkWrong)

/-- 'laws.FnExactLoopRank': WHATEVER THE INPUT: true; the input reads as it did. -/
def fnExactLoopRankSpec : ChangeSpec := { name := "fnExactLoopRank", fn := fun _ => fun
  | [d] => { results := [.lit (.bool true)], args := [d] }
  | _ => none }
def fnExactLoopRankRow : OpenClaim := { program := "ytpcnfkamlfplmaa", sum := "c27992987ac0de7b6073dbb99646cdf1c14d76bcbcaf34549b1d6156f702b176", func := "loop.example/g01005/laws.FnExactLoopRank", spec := "fnExactLoopRank", apart := false }
def FnExactLoopRankSaid : Prop := fnExactLoopRankRow.holds Try.pinned (OpenSpec.ofChange fnExactLoopRankSpec)

/-- ITS FALSE NEIGHBOUR: 'it returns false'. Refute it at one input. -/
def fnExactLoopRankWrong : ChangeSpec := { name := "fnExactLoopRank", fn := fun _ => fun
  | [d] => { results := [.lit (.bool false)], args := [d] }
  | _ => none }
def FnExactLoopRankWrongFalsely : Prop := fnExactLoopRankRow.holds Try.pinned (OpenSpec.ofChange fnExactLoopRankWrong)

/-- 'laws.FnExactValidTable': WHATEVER THE INPUT: true; the input reads as it did. -/
def fnExactValidTableSpec : ChangeSpec := { name := "fnExactValidTable", fn := fun _ => fun
  | [d] => { results := [.lit (.bool true)], args := [d] }
  | _ => none }
def fnExactValidTableRow : OpenClaim := { program := "ytpcnfkamlfplmaa", sum := "c27992987ac0de7b6073dbb99646cdf1c14d76bcbcaf34549b1d6156f702b176", func := "loop.example/g01005/laws.FnExactValidTable", spec := "fnExactValidTable", unfollowed := true, recurses := true, apart := false }
def FnExactValidTableSaid : Prop := fnExactValidTableRow.holds Try.pinned (OpenSpec.ofChange fnExactValidTableSpec)

/-- ITS FALSE NEIGHBOUR: 'it returns false'. Refute it at one input. -/
def fnExactValidTableWrong : ChangeSpec := { name := "fnExactValidTable", fn := fun _ => fun
  | [d] => { results := [.lit (.bool false)], args := [d] }
  | _ => none }
def FnExactValidTableWrongFalsely : Prop := fnExactValidTableRow.holds Try.pinned (OpenSpec.ofChange fnExactValidTableWrong)

/-- 'laws.FnExactIsFlow': WHATEVER THE INPUT: true; the input reads as it did. -/
def fnExactIsFlowSpec : ChangeSpec := { name := "fnExactIsFlow", fn := fun _ => fun
  | [d1, d2] => { results := [.lit (.bool true)], args := [d1, d2] }
  | _ => none }
def fnExactIsFlowRow : OpenClaim := { program := "ytpcnfkamlfplmaa", sum := "c27992987ac0de7b6073dbb99646cdf1c14d76bcbcaf34549b1d6156f702b176", func := "loop.example/g01005/laws.FnExactIsFlow", spec := "fnExactIsFlow", apart := false }
def FnExactIsFlowSaid : Prop := fnExactIsFlowRow.holds Try.pinned (OpenSpec.ofChange fnExactIsFlowSpec)

/-- ITS FALSE NEIGHBOUR: 'it returns false'. Refute it at one input. -/
def fnExactIsFlowWrong : ChangeSpec := { name := "fnExactIsFlow", fn := fun _ => fun
  | [d1, d2] => { results := [.lit (.bool false)], args := [d1, d2] }
  | _ => none }
def FnExactIsFlowWrongFalsely : Prop := fnExactIsFlowRow.holds Try.pinned (OpenSpec.ofChange fnExactIsFlowWrong)

/-- 'laws.FnExactIsCut': WHATEVER THE INPUT: true; the input reads as it did. -/
def fnExactIsCutSpec : ChangeSpec := { name := "fnExactIsCut", fn := fun _ => fun
  | [d1, d2] => { results := [.lit (.bool true)], args := [d1, d2] }
  | _ => none }
def fnExactIsCutRow : OpenClaim := { program := "ytpcnfkamlfplmaa", sum := "c27992987ac0de7b6073dbb99646cdf1c14d76bcbcaf34549b1d6156f702b176", func := "loop.example/g01005/laws.FnExactIsCut", spec := "fnExactIsCut", unfollowed := true, recurses := true, apart := false }
def FnExactIsCutSaid : Prop := fnExactIsCutRow.holds Try.pinned (OpenSpec.ofChange fnExactIsCutSpec)

/-- ITS FALSE NEIGHBOUR: 'it returns false'. Refute it at one input. -/
def fnExactIsCutWrong : ChangeSpec := { name := "fnExactIsCut", fn := fun _ => fun
  | [d1, d2] => { results := [.lit (.bool false)], args := [d1, d2] }
  | _ => none }
def FnExactIsCutWrongFalsely : Prop := fnExactIsCutRow.holds Try.pinned (OpenSpec.ofChange fnExactIsCutWrong)

/-- 'laws.FnExactFlowValue': WHATEVER THE INPUT: true; the input reads as it did. -/
def fnExactFlowValueSpec : ChangeSpec := { name := "fnExactFlowValue", fn := fun _ => fun
  | [d1, d2] => { results := [.lit (.bool true)], args := [d1, d2] }
  | _ => none }
def fnExactFlowValueRow : OpenClaim := { program := "ytpcnfkamlfplmaa", sum := "c27992987ac0de7b6073dbb99646cdf1c14d76bcbcaf34549b1d6156f702b176", func := "loop.example/g01005/laws.FnExactFlowValue", spec := "fnExactFlowValue", apart := false }
def FnExactFlowValueSaid : Prop := fnExactFlowValueRow.holds Try.pinned (OpenSpec.ofChange fnExactFlowValueSpec)

/-- ITS FALSE NEIGHBOUR: 'it returns false'. Refute it at one input. -/
def fnExactFlowValueWrong : ChangeSpec := { name := "fnExactFlowValue", fn := fun _ => fun
  | [d1, d2] => { results := [.lit (.bool false)], args := [d1, d2] }
  | _ => none }
def FnExactFlowValueWrongFalsely : Prop := fnExactFlowValueRow.holds Try.pinned (OpenSpec.ofChange fnExactFlowValueWrong)

/-- 'laws.FnExactValidTables': WHATEVER THE INPUT: true; the input reads as it did. -/
def fnExactValidTablesSpec : ChangeSpec := { name := "fnExactValidTables", fn := fun _ => fun
  | [d] => { results := [.lit (.bool true)], args := [d] }
  | _ => none }
def fnExactValidTablesRow : OpenClaim := { program := "ytpcnfkamlfplmaa", sum := "c27992987ac0de7b6073dbb99646cdf1c14d76bcbcaf34549b1d6156f702b176", func := "loop.example/g01005/laws.FnExactValidTables", spec := "fnExactValidTables", unfollowed := true, recurses := true, apart := false }
def FnExactValidTablesSaid : Prop := fnExactValidTablesRow.holds Try.pinned (OpenSpec.ofChange fnExactValidTablesSpec)

/-- ITS FALSE NEIGHBOUR: 'it returns false'. Refute it at one input. -/
def fnExactValidTablesWrong : ChangeSpec := { name := "fnExactValidTables", fn := fun _ => fun
  | [d] => { results := [.lit (.bool false)], args := [d] }
  | _ => none }
def FnExactValidTablesWrongFalsely : Prop := fnExactValidTablesRow.holds Try.pinned (OpenSpec.ofChange fnExactValidTablesWrong)

/-- 'laws.FnExactWeightedMean': WHATEVER THE INPUT: true; the input reads as it did. -/
def fnExactWeightedMeanSpec : ChangeSpec := { name := "fnExactWeightedMean", fn := fun _ => fun
  | [d1, d2] => { results := [.lit (.bool true)], args := [d1, d2] }
  | _ => none }
def fnExactWeightedMeanRow : OpenClaim := { program := "ytpcnfkamlfplmaa", sum := "c27992987ac0de7b6073dbb99646cdf1c14d76bcbcaf34549b1d6156f702b176", func := "loop.example/g01005/laws.FnExactWeightedMean", spec := "fnExactWeightedMean", unfollowed := true, recurses := true, apart := false }
def FnExactWeightedMeanSaid : Prop := fnExactWeightedMeanRow.holds Try.pinned (OpenSpec.ofChange fnExactWeightedMeanSpec)

/-- ITS FALSE NEIGHBOUR: 'it returns false'. Refute it at one input. -/
def fnExactWeightedMeanWrong : ChangeSpec := { name := "fnExactWeightedMean", fn := fun _ => fun
  | [d1, d2] => { results := [.lit (.bool false)], args := [d1, d2] }
  | _ => none }
def FnExactWeightedMeanWrongFalsely : Prop := fnExactWeightedMeanRow.holds Try.pinned (OpenSpec.ofChange fnExactWeightedMeanWrong)

/-- 'laws.FnExactCutCapacity': WHATEVER THE INPUT: true; the input reads as it did. -/
def fnExactCutCapacitySpec : ChangeSpec := { name := "fnExactCutCapacity", fn := fun _ => fun
  | [d1, d2] => { results := [.lit (.bool true)], args := [d1, d2] }
  | _ => none }
def fnExactCutCapacityRow : OpenClaim := { program := "ytpcnfkamlfplmaa", sum := "c27992987ac0de7b6073dbb99646cdf1c14d76bcbcaf34549b1d6156f702b176", func := "loop.example/g01005/laws.FnExactCutCapacity", spec := "fnExactCutCapacity", unfollowed := true, recurses := true, apart := false }
def FnExactCutCapacitySaid : Prop := fnExactCutCapacityRow.holds Try.pinned (OpenSpec.ofChange fnExactCutCapacitySpec)

/-- ITS FALSE NEIGHBOUR: 'it returns false'. Refute it at one input. -/
def fnExactCutCapacityWrong : ChangeSpec := { name := "fnExactCutCapacity", fn := fun _ => fun
  | [d1, d2] => { results := [.lit (.bool false)], args := [d1, d2] }
  | _ => none }
def FnExactCutCapacityWrongFalsely : Prop := fnExactCutCapacityRow.holds Try.pinned (OpenSpec.ofChange fnExactCutCapacityWrong)

/- THE SECOND FORM. 'bulk': how many values and letters a reading holds, each counted each time it is reached (what is shared counts as often as it is met; a slice's spare places count too). A statement '..UptoSaid' is the law's where the arguments, and the package variables that the reading takes, are together of bulk at most 1048576: NARROWER than '..Said'. Prove '..Said' where nothing that the law and all that it calls make is longer than what came in: it says more and counts as full. Else prove '..UptoSaid'. A law counts once. -/
mutual
def uptoBulk {H : Type} : DataW H → Nat
  | .lit (.string bytes) => bytes.length + 1
  | .lit _ => 1
  | .nil => 1
  | .ptr d => uptoBulk d + 1
  | .slice elems spare => uptoBulkAll elems + uptoBulkAll spare + 1
  | .agg parts => uptoBulkAll parts + 1
  | .iface _ d => uptoBulk d + 1
  | .map entries => uptoBulkEntries entries + 1
  | .held _ => 1
def uptoBulkAll {H : Type} : List (DataW H) → Nat
  | [] => 0
  | d :: r => uptoBulk d + uptoBulkAll r
def uptoBulkEntries {H : Type} : List (Lit × DataW H) → Nat
  | [] => 0
  | x :: r => uptoBulkEntry x + uptoBulkEntries r
def uptoBulkEntry {H : Type} : Lit × DataW H → Nat
  | (.string bytes, d) => bytes.length + uptoBulk d + 1
  | (_, d) => uptoBulk d + 1
 end
def uptoSmall : (H : Type) → List (DataW H) → Bool := fun _ ds => decide (uptoBulkAll ds ≤ 1048576)
def OpenSpec.upto (s : _root_.Go.ChangeSpec) : _root_.Go.OpenSpec := { _root_.Go.OpenSpec.ofChange s with cond := some uptoSmall }

/-- 'laws.FnExactSpreadOf', WHERE WHAT IT READS IS OF BULK AT MOST 1048576: true; the input reads as it did. -/
def fnExactSpreadOfUptoRow : OpenClaim := { program := "ytpcnfkamlfplmaa", sum := "c27992987ac0de7b6073dbb99646cdf1c14d76bcbcaf34549b1d6156f702b176", func := "loop.example/g01005/laws.FnExactSpreadOf", spec := "fnExactSpreadOf", unfollowed := true, recurses := true, apart := false, narrowed := true }
def FnExactSpreadOfUptoSaid : Prop := fnExactSpreadOfUptoRow.holds Try.pinned (OpenSpec.upto fnExactSpreadOfSpec)

/-- 'laws.FnExactSameNetwork', WHERE WHAT IT READS IS OF BULK AT MOST 1048576: true; the input reads as it did. -/
def fnExactSameNetworkUptoRow : OpenClaim := { program := "ytpcnfkamlfplmaa", sum := "c27992987ac0de7b6073dbb99646cdf1c14d76bcbcaf34549b1d6156f702b176", func := "loop.example/g01005/laws.FnExactSameNetwork", spec := "fnExactSameNetwork", apart := false, narrowed := true }
def FnExactSameNetworkUptoSaid : Prop := fnExactSameNetworkUptoRow.holds Try.pinned (OpenSpec.upto fnExactSameNetworkSpec)

/-- 'laws.FnExactSameTable', WHERE WHAT IT READS IS OF BULK AT MOST 1048576: true; the input reads as it did. -/
def fnExactSameTableUptoRow : OpenClaim := { program := "ytpcnfkamlfplmaa", sum := "c27992987ac0de7b6073dbb99646cdf1c14d76bcbcaf34549b1d6156f702b176", func := "loop.example/g01005/laws.FnExactSameTable", spec := "fnExactSameTable", unfollowed := true, recurses := true, apart := false, narrowed := true }
def FnExactSameTableUptoSaid : Prop := fnExactSameTableUptoRow.holds Try.pinned (OpenSpec.upto fnExactSameTableSpec)

/-- 'laws.FnExactValidNetwork', WHERE WHAT IT READS IS OF BULK AT MOST 1048576: true; the input reads as it did. -/
def fnExactValidNetworkUptoRow : OpenClaim := { program := "ytpcnfkamlfplmaa", sum := "c27992987ac0de7b6073dbb99646cdf1c14d76bcbcaf34549b1d6156f702b176", func := "loop.example/g01005/laws.FnExactValidNetwork", spec := "fnExactValidNetwork", apart := false, narrowed := true }
def FnExactValidNetworkUptoSaid : Prop := fnExactValidNetworkUptoRow.holds Try.pinned (OpenSpec.upto fnExactValidNetworkSpec)

/-- 'laws.FnExactLoopRank', WHERE WHAT IT READS IS OF BULK AT MOST 1048576: true; the input reads as it did. -/
def fnExactLoopRankUptoRow : OpenClaim := { program := "ytpcnfkamlfplmaa", sum := "c27992987ac0de7b6073dbb99646cdf1c14d76bcbcaf34549b1d6156f702b176", func := "loop.example/g01005/laws.FnExactLoopRank", spec := "fnExactLoopRank", apart := false, narrowed := true }
def FnExactLoopRankUptoSaid : Prop := fnExactLoopRankUptoRow.holds Try.pinned (OpenSpec.upto fnExactLoopRankSpec)

/-- 'laws.FnExactValidTable', WHERE WHAT IT READS IS OF BULK AT MOST 1048576: true; the input reads as it did. -/
def fnExactValidTableUptoRow : OpenClaim := { program := "ytpcnfkamlfplmaa", sum := "c27992987ac0de7b6073dbb99646cdf1c14d76bcbcaf34549b1d6156f702b176", func := "loop.example/g01005/laws.FnExactValidTable", spec := "fnExactValidTable", unfollowed := true, recurses := true, apart := false, narrowed := true }
def FnExactValidTableUptoSaid : Prop := fnExactValidTableUptoRow.holds Try.pinned (OpenSpec.upto fnExactValidTableSpec)

/-- 'laws.FnExactIsFlow', WHERE WHAT IT READS IS OF BULK AT MOST 1048576: true; the input reads as it did. -/
def fnExactIsFlowUptoRow : OpenClaim := { program := "ytpcnfkamlfplmaa", sum := "c27992987ac0de7b6073dbb99646cdf1c14d76bcbcaf34549b1d6156f702b176", func := "loop.example/g01005/laws.FnExactIsFlow", spec := "fnExactIsFlow", apart := false, narrowed := true }
def FnExactIsFlowUptoSaid : Prop := fnExactIsFlowUptoRow.holds Try.pinned (OpenSpec.upto fnExactIsFlowSpec)

/-- 'laws.FnExactIsCut', WHERE WHAT IT READS IS OF BULK AT MOST 1048576: true; the input reads as it did. -/
def fnExactIsCutUptoRow : OpenClaim := { program := "ytpcnfkamlfplmaa", sum := "c27992987ac0de7b6073dbb99646cdf1c14d76bcbcaf34549b1d6156f702b176", func := "loop.example/g01005/laws.FnExactIsCut", spec := "fnExactIsCut", unfollowed := true, recurses := true, apart := false, narrowed := true }
def FnExactIsCutUptoSaid : Prop := fnExactIsCutUptoRow.holds Try.pinned (OpenSpec.upto fnExactIsCutSpec)

/-- 'laws.FnExactFlowValue', WHERE WHAT IT READS IS OF BULK AT MOST 1048576: true; the input reads as it did. -/
def fnExactFlowValueUptoRow : OpenClaim := { program := "ytpcnfkamlfplmaa", sum := "c27992987ac0de7b6073dbb99646cdf1c14d76bcbcaf34549b1d6156f702b176", func := "loop.example/g01005/laws.FnExactFlowValue", spec := "fnExactFlowValue", apart := false, narrowed := true }
def FnExactFlowValueUptoSaid : Prop := fnExactFlowValueUptoRow.holds Try.pinned (OpenSpec.upto fnExactFlowValueSpec)

/-- 'laws.FnExactValidTables', WHERE WHAT IT READS IS OF BULK AT MOST 1048576: true; the input reads as it did. -/
def fnExactValidTablesUptoRow : OpenClaim := { program := "ytpcnfkamlfplmaa", sum := "c27992987ac0de7b6073dbb99646cdf1c14d76bcbcaf34549b1d6156f702b176", func := "loop.example/g01005/laws.FnExactValidTables", spec := "fnExactValidTables", unfollowed := true, recurses := true, apart := false, narrowed := true }
def FnExactValidTablesUptoSaid : Prop := fnExactValidTablesUptoRow.holds Try.pinned (OpenSpec.upto fnExactValidTablesSpec)

/-- 'laws.FnExactWeightedMean', WHERE WHAT IT READS IS OF BULK AT MOST 1048576: true; the input reads as it did. -/
def fnExactWeightedMeanUptoRow : OpenClaim := { program := "ytpcnfkamlfplmaa", sum := "c27992987ac0de7b6073dbb99646cdf1c14d76bcbcaf34549b1d6156f702b176", func := "loop.example/g01005/laws.FnExactWeightedMean", spec := "fnExactWeightedMean", unfollowed := true, recurses := true, apart := false, narrowed := true }
def FnExactWeightedMeanUptoSaid : Prop := fnExactWeightedMeanUptoRow.holds Try.pinned (OpenSpec.upto fnExactWeightedMeanSpec)

/-- 'laws.FnExactCutCapacity', WHERE WHAT IT READS IS OF BULK AT MOST 1048576: true; the input reads as it did. -/
def fnExactCutCapacityUptoRow : OpenClaim := { program := "ytpcnfkamlfplmaa", sum := "c27992987ac0de7b6073dbb99646cdf1c14d76bcbcaf34549b1d6156f702b176", func := "loop.example/g01005/laws.FnExactCutCapacity", spec := "fnExactCutCapacity", unfollowed := true, recurses := true, apart := false, narrowed := true }
def FnExactCutCapacityUptoSaid : Prop := fnExactCutCapacityUptoRow.holds Try.pinned (OpenSpec.upto fnExactCutCapacitySpec)

end Rows
end Go.Proofs.Ytpcnfkamlfplmaa
