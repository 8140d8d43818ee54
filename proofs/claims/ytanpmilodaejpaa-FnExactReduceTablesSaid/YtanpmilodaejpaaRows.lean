/-
  No cell of these rows narrows 'for every input' (looked for: loops, veiled, ifaces, maps, wideKeys, modest, calm, conditions, laid).
  DERIVED. THE GIVEN ROWS OF THIS SEAT. 5 by the template 'for every input the law returns true; each argument reads behind the call as it read before'; 0 by the template 'total and deterministic' (their statements: YtanpmilodaejpaaTotals.lean).
  GIVEN WITH THE SEED: the statements are not yours to turn. If you find one false, say at which input.
  Laid BY PROGRAM, IN A SANDBOX (cutbox-rows.mjs): the forced cells as the released guide's own fill.sh prints them over the translation 12ecd305c975edef… (all of the seat's roots in one cut). By AI agents, Wed Nov 11 2026. No macro, syntax, notation, axiom, sorry.
-/
import Derived.Test.YtanpmilodaejpaaChecked
import GoSem.Claim
import GoSem.ClaimJoined
import GoSem.ClaimMapViews
import Derived.JoinedTies
import Derived.KernelRfl
namespace Go.Proofs.Ytanpmilodaejpaa
/- THE CELL 'sum', in the pinned program and in every row, IS THE sha256 OF THE DUMP (.gsa) THAT YtanpmilodaejpaaProg.lean LOADS. Nothing in Lean hashes anything: it is a label: what it is worth is what the hold of that sum in a sandbox is worth. -/
noncomputable def Try.pinned : Pinned := { name := "ytanpmilodaejpaa", sum := "12ecd305c975edef0f9eb7e17ddb51012b00f06f05cc2e2db11438916fe2b1a7", checked := Try.checked }
namespace Rows
def none {H : Type} : Left H := { results := [], args := [] }

/-- 'laws.FnExactReduceTables': WHATEVER THE INPUT: true; the input reads as it did. -/
def fnExactReduceTablesSpec : ChangeSpec := { name := "fnExactReduceTables", fn := fun _ => fun
  | [d] => { results := [.lit (.bool true)], args := [d] }
  | _ => none }
def fnExactReduceTablesRow : OpenClaim := { program := "ytanpmilodaejpaa", sum := "12ecd305c975edef0f9eb7e17ddb51012b00f06f05cc2e2db11438916fe2b1a7", func := "loop.example/g01005/laws.FnExactReduceTables", spec := "fnExactReduceTables", unfollowed := true, recurses := true, apart := false }
def FnExactReduceTablesSaid : Prop := fnExactReduceTablesRow.holds Try.pinned (OpenSpec.ofChange fnExactReduceTablesSpec)

/-- ITS FALSE NEIGHBOUR: 'it returns false'. Refute it at one input. -/
def fnExactReduceTablesWrong : ChangeSpec := { name := "fnExactReduceTables", fn := fun _ => fun
  | [d] => { results := [.lit (.bool false)], args := [d] }
  | _ => none }
def FnExactReduceTablesWrongFalsely : Prop := fnExactReduceTablesRow.holds Try.pinned (OpenSpec.ofChange fnExactReduceTablesWrong)

/-- 'laws.FnExactAgreeTables': WHATEVER THE INPUT: true; the input reads as it did. -/
def fnExactAgreeTablesSpec : ChangeSpec := { name := "fnExactAgreeTables", fn := fun _ => fun
  | [d1, d2] => { results := [.lit (.bool true)], args := [d1, d2] }
  | _ => none }
def fnExactAgreeTablesRow : OpenClaim := { program := "ytanpmilodaejpaa", sum := "12ecd305c975edef0f9eb7e17ddb51012b00f06f05cc2e2db11438916fe2b1a7", func := "loop.example/g01005/laws.FnExactAgreeTables", spec := "fnExactAgreeTables", unfollowed := true, recurses := true, apart := false }
def FnExactAgreeTablesSaid : Prop := fnExactAgreeTablesRow.holds Try.pinned (OpenSpec.ofChange fnExactAgreeTablesSpec)

/-- ITS FALSE NEIGHBOUR: 'it returns false'. Refute it at one input. -/
def fnExactAgreeTablesWrong : ChangeSpec := { name := "fnExactAgreeTables", fn := fun _ => fun
  | [d1, d2] => { results := [.lit (.bool false)], args := [d1, d2] }
  | _ => none }
def FnExactAgreeTablesWrongFalsely : Prop := fnExactAgreeTablesRow.holds Try.pinned (OpenSpec.ofChange fnExactAgreeTablesWrong)

/-- 'laws.FnExactProjectTable': WHATEVER THE INPUT: true; the input reads as it did. -/
def fnExactProjectTableSpec : ChangeSpec := { name := "fnExactProjectTable", fn := fun _ => fun
  | [d1, d2] => { results := [.lit (.bool true)], args := [d1, d2] }
  | _ => none }
def fnExactProjectTableRow : OpenClaim := { program := "ytanpmilodaejpaa", sum := "12ecd305c975edef0f9eb7e17ddb51012b00f06f05cc2e2db11438916fe2b1a7", func := "loop.example/g01005/laws.FnExactProjectTable", spec := "fnExactProjectTable", unfollowed := true, recurses := true, apart := false }
def FnExactProjectTableSaid : Prop := fnExactProjectTableRow.holds Try.pinned (OpenSpec.ofChange fnExactProjectTableSpec)

/-- ITS FALSE NEIGHBOUR: 'it returns false'. Refute it at one input. -/
def fnExactProjectTableWrong : ChangeSpec := { name := "fnExactProjectTable", fn := fun _ => fun
  | [d1, d2] => { results := [.lit (.bool false)], args := [d1, d2] }
  | _ => none }
def FnExactProjectTableWrongFalsely : Prop := fnExactProjectTableRow.holds Try.pinned (OpenSpec.ofChange fnExactProjectTableWrong)

/-- 'laws.FnExactFirstDisagreement': WHATEVER THE INPUT: true; the input reads as it did. -/
def fnExactFirstDisagreementSpec : ChangeSpec := { name := "fnExactFirstDisagreement", fn := fun _ => fun
  | [d] => { results := [.lit (.bool true)], args := [d] }
  | _ => none }
def fnExactFirstDisagreementRow : OpenClaim := { program := "ytanpmilodaejpaa", sum := "12ecd305c975edef0f9eb7e17ddb51012b00f06f05cc2e2db11438916fe2b1a7", func := "loop.example/g01005/laws.FnExactFirstDisagreement", spec := "fnExactFirstDisagreement", unfollowed := true, recurses := true, apart := false }
def FnExactFirstDisagreementSaid : Prop := fnExactFirstDisagreementRow.holds Try.pinned (OpenSpec.ofChange fnExactFirstDisagreementSpec)

/-- ITS FALSE NEIGHBOUR: 'it returns false'. Refute it at one input. -/
def fnExactFirstDisagreementWrong : ChangeSpec := { name := "fnExactFirstDisagreement", fn := fun _ => fun
  | [d] => { results := [.lit (.bool false)], args := [d] }
  | _ => none }
def FnExactFirstDisagreementWrongFalsely : Prop := fnExactFirstDisagreementRow.holds Try.pinned (OpenSpec.ofChange fnExactFirstDisagreementWrong)

/-- 'laws.FnExactJoinTables': WHATEVER THE INPUT: true; the input reads as it did. -/
def fnExactJoinTablesSpec : ChangeSpec := { name := "fnExactJoinTables", fn := fun _ => fun
  | [d1, d2] => { results := [.lit (.bool true)], args := [d1, d2] }
  | _ => none }
def fnExactJoinTablesRow : OpenClaim := { program := "ytanpmilodaejpaa", sum := "12ecd305c975edef0f9eb7e17ddb51012b00f06f05cc2e2db11438916fe2b1a7", func := "loop.example/g01005/laws.FnExactJoinTables", spec := "fnExactJoinTables", unfollowed := true, recurses := true, apart := false }
def FnExactJoinTablesSaid : Prop := fnExactJoinTablesRow.holds Try.pinned (OpenSpec.ofChange fnExactJoinTablesSpec)

/-- ITS FALSE NEIGHBOUR: 'it returns false'. Refute it at one input. -/
def fnExactJoinTablesWrong : ChangeSpec := { name := "fnExactJoinTables", fn := fun _ => fun
  | [d1, d2] => { results := [.lit (.bool false)], args := [d1, d2] }
  | _ => none }
def FnExactJoinTablesWrongFalsely : Prop := fnExactJoinTablesRow.holds Try.pinned (OpenSpec.ofChange fnExactJoinTablesWrong)

/- THE SECOND FORM. 'bulk': how many values and letters a reading holds, each counted each time it is reached (what is shared counts as often as it is met; a slice's spare places count too). A statement '..UptoSaid' is the law's where the arguments, and the package variables that the reading takes, are together of bulk at most 1048576: NARROWER than '..Said'. Prove '..Said' where nothing that the law and all that it calls make is longer than what came in: it says more and counts as full. Else prove '..UptoSaid'. A law counts once. -/
mutual
def uptoBulk {H : Type} : DataW H → Nat
  | .lit (.string bytes) => bytes.length + 1
  | .lit _ => 1
  | .nil => 1
  | .ptr d => uptoBulk d + 1
  | .slice elems spare => uptoBulkAll elems + uptoBulkAll spare + 1
  | .agg parts => uptoBulkAll parts + 1
  | .iface _ d => uptoBulk d + 1
  | .map entries => uptoBulkEntries entries + 1
  | .held _ => 1
def uptoBulkAll {H : Type} : List (DataW H) → Nat
  | [] => 0
  | d :: r => uptoBulk d + uptoBulkAll r
def uptoBulkEntries {H : Type} : List (Lit × DataW H) → Nat
  | [] => 0
  | x :: r => uptoBulkEntry x + uptoBulkEntries r
def uptoBulkEntry {H : Type} : Lit × DataW H → Nat
  | (.string bytes, d) => bytes.length + uptoBulk d + 1
  | (_, d) => uptoBulk d + 1
 end
def uptoSmall : (H : Type) → List (DataW H) → Bool := fun _ ds => decide (uptoBulkAll ds ≤ 1048576)
def OpenSpec.upto (s : _root_.Go.ChangeSpec) : _root_.Go.OpenSpec := { _root_.Go.OpenSpec.ofChange s with cond := some uptoSmall }

/-- 'laws.FnExactReduceTables', WHERE WHAT IT READS IS OF BULK AT MOST 1048576: true; the input reads as it did. -/
def fnExactReduceTablesUptoRow : OpenClaim := { program := "ytanpmilodaejpaa", sum := "12ecd305c975edef0f9eb7e17ddb51012b00f06f05cc2e2db11438916fe2b1a7", func := "loop.example/g01005/laws.FnExactReduceTables", spec := "fnExactReduceTables", unfollowed := true, recurses := true, apart := false, narrowed := true }
def FnExactReduceTablesUptoSaid : Prop := fnExactReduceTablesUptoRow.holds Try.pinned (OpenSpec.upto fnExactReduceTablesSpec)

/-- 'laws.FnExactAgreeTables', WHERE WHAT IT READS IS OF BULK AT MOST 1048576: true; the input reads as it did. -/
def fnExactAgreeTablesUptoRow : OpenClaim := { program := "ytanpmilodaejpaa", sum := "12ecd305c975edef0f9eb7e17ddb51012b00f06f05cc2e2db11438916fe2b1a7", func := "loop.example/g01005/laws.FnExactAgreeTables", spec := "fnExactAgreeTables", unfollowed := true, recurses := true, apart := false, narrowed := true }
def FnExactAgreeTablesUptoSaid : Prop := fnExactAgreeTablesUptoRow.holds Try.pinned (OpenSpec.upto fnExactAgreeTablesSpec)

/-- 'laws.FnExactProjectTable', WHERE WHAT IT READS IS OF BULK AT MOST 1048576: true; the input reads as it did. -/
def fnExactProjectTableUptoRow : OpenClaim := { program := "ytanpmilodaejpaa", sum := "12ecd305c975edef0f9eb7e17ddb51012b00f06f05cc2e2db11438916fe2b1a7", func := "loop.example/g01005/laws.FnExactProjectTable", spec := "fnExactProjectTable", unfollowed := true, recurses := true, apart := false, narrowed := true }
def FnExactProjectTableUptoSaid : Prop := fnExactProjectTableUptoRow.holds Try.pinned (OpenSpec.upto fnExactProjectTableSpec)

/-- 'laws.FnExactFirstDisagreement', WHERE WHAT IT READS IS OF BULK AT MOST 1048576: true; the input reads as it did. -/
def fnExactFirstDisagreementUptoRow : OpenClaim := { program := "ytanpmilodaejpaa", sum := "12ecd305c975edef0f9eb7e17ddb51012b00f06f05cc2e2db11438916fe2b1a7", func := "loop.example/g01005/laws.FnExactFirstDisagreement", spec := "fnExactFirstDisagreement", unfollowed := true, recurses := true, apart := false, narrowed := true }
def FnExactFirstDisagreementUptoSaid : Prop := fnExactFirstDisagreementUptoRow.holds Try.pinned (OpenSpec.upto fnExactFirstDisagreementSpec)

/-- 'laws.FnExactJoinTables', WHERE WHAT IT READS IS OF BULK AT MOST 1048576: true; the input reads as it did. -/
def fnExactJoinTablesUptoRow : OpenClaim := { program := "ytanpmilodaejpaa", sum := "12ecd305c975edef0f9eb7e17ddb51012b00f06f05cc2e2db11438916fe2b1a7", func := "loop.example/g01005/laws.FnExactJoinTables", spec := "fnExactJoinTables", unfollowed := true, recurses := true, apart := false, narrowed := true }
def FnExactJoinTablesUptoSaid : Prop := fnExactJoinTablesUptoRow.holds Try.pinned (OpenSpec.upto fnExactJoinTablesSpec)

end Rows
end Go.Proofs.Ytanpmilodaejpaa
