/-
  No cell of these rows narrows 'for every input' (looked for: loops, veiled, ifaces, maps, wideKeys, modest, calm, conditions, laid).
  DERIVED. THE GIVEN ROWS OF THIS SEAT. 8 by the template 'for every input the law returns true; each argument reads behind the call as it read before'; 0 by the template 'total and deterministic' (their statements: YtdnipjkpfpahmaaGreatTotals.lean).
  GIVEN WITH THE SEED: the statements are not yours to turn. If you find one false, say at which input.
  Laid BY PROGRAM, IN A SANDBOX (cutbox-rows.mjs): the forced cells as the released guide's own fill.sh prints them over the translation 89f852110a756aa3… (all of the seat's roots in one cut). By AI agents, Wed Nov 11 2026. No macro, syntax, notation, axiom, sorry.
-/
import Derived.Test.YtdnipjkpfpahmaaGreatChecked
import GoSem.Claim
import GoSem.ClaimJoined
import GoSem.ClaimMapViews
import Derived.JoinedTies
import Derived.KernelRfl
namespace Go.Proofs.YtdnipjkpfpahmaaGreat
/- THE CELL 'sum', in the pinned program and in every row, IS THE sha256 OF THE DUMP (.gsa) THAT YtdnipjkpfpahmaaGreatProg.lean LOADS. Nothing in Lean hashes anything: it is a label: what it is worth is what the hold of that sum in a sandbox is worth. -/
noncomputable def Tryz.pinned : Pinned := { name := "ytdnipjkpfpahmaagreat", sum := "89f852110a756aa3efa49d04dbffa92e77998bfc7dcd22d9442df0567f7f440e", checked := Tryz.checked }
namespace Rows
def none {H : Type} : Left H := { results := [], args := [] }

/-- 'laws.FnExactDisagreements': WHATEVER THE INPUT: true; the input reads as it did. -/
def fnExactDisagreementsSpec : ChangeSpec := { name := "fnExactDisagreements", fn := fun _ => fun
  | [d1, d2] => { results := [.lit (.bool true)], args := [d1, d2] }
  | _ => none }
def fnExactDisagreementsRow : OpenClaim := { program := "ytdnipjkpfpahmaagreat", sum := "89f852110a756aa3efa49d04dbffa92e77998bfc7dcd22d9442df0567f7f440e", func := "loop.example/g01005/laws.FnExactDisagreements", spec := "fnExactDisagreements", unfollowed := true, recurses := true, apart := false }
def FnExactDisagreementsSaid : Prop := fnExactDisagreementsRow.holds Tryz.pinned (OpenSpec.ofChange fnExactDisagreementsSpec)

/-- ITS FALSE NEIGHBOUR: 'it returns false'. Refute it at one input. -/
def fnExactDisagreementsWrong : ChangeSpec := { name := "fnExactDisagreements", fn := fun _ => fun
  | [d1, d2] => { results := [.lit (.bool false)], args := [d1, d2] }
  | _ => none }
def FnExactDisagreementsWrongFalsely : Prop := fnExactDisagreementsRow.holds Tryz.pinned (OpenSpec.ofChange fnExactDisagreementsWrong)

/-- 'laws.FnExactIsAgreement': WHATEVER THE INPUT: true; the input reads as it did. -/
def fnExactIsAgreementSpec : ChangeSpec := { name := "fnExactIsAgreement", fn := fun _ => fun
  | [d1, d2] => { results := [.lit (.bool true)], args := [d1, d2] }
  | _ => none }
def fnExactIsAgreementRow : OpenClaim := { program := "ytdnipjkpfpahmaagreat", sum := "89f852110a756aa3efa49d04dbffa92e77998bfc7dcd22d9442df0567f7f440e", func := "loop.example/g01005/laws.FnExactIsAgreement", spec := "fnExactIsAgreement", unfollowed := true, recurses := true, apart := false }
def FnExactIsAgreementSaid : Prop := fnExactIsAgreementRow.holds Tryz.pinned (OpenSpec.ofChange fnExactIsAgreementSpec)

/-- ITS FALSE NEIGHBOUR: 'it returns false'. Refute it at one input. -/
def fnExactIsAgreementWrong : ChangeSpec := { name := "fnExactIsAgreement", fn := fun _ => fun
  | [d1, d2] => { results := [.lit (.bool false)], args := [d1, d2] }
  | _ => none }
def FnExactIsAgreementWrongFalsely : Prop := fnExactIsAgreementRow.holds Tryz.pinned (OpenSpec.ofChange fnExactIsAgreementWrong)

/-- 'laws.FnExactAgreesWithin': WHATEVER THE INPUT: true; the input reads as it did. -/
def fnExactAgreesWithinSpec : ChangeSpec := { name := "fnExactAgreesWithin", fn := fun _ => fun
  | [d1, d2, d3] => { results := [.lit (.bool true)], args := [d1, d2, d3] }
  | _ => none }
def fnExactAgreesWithinRow : OpenClaim := { program := "ytdnipjkpfpahmaagreat", sum := "89f852110a756aa3efa49d04dbffa92e77998bfc7dcd22d9442df0567f7f440e", func := "loop.example/g01005/laws.FnExactAgreesWithin", spec := "fnExactAgreesWithin", unfollowed := true, recurses := true, apart := false }
def FnExactAgreesWithinSaid : Prop := fnExactAgreesWithinRow.holds Tryz.pinned (OpenSpec.ofChange fnExactAgreesWithinSpec)

/-- ITS FALSE NEIGHBOUR: 'it returns false'. Refute it at one input. -/
def fnExactAgreesWithinWrong : ChangeSpec := { name := "fnExactAgreesWithin", fn := fun _ => fun
  | [d1, d2, d3] => { results := [.lit (.bool false)], args := [d1, d2, d3] }
  | _ => none }
def FnExactAgreesWithinWrongFalsely : Prop := fnExactAgreesWithinRow.holds Tryz.pinned (OpenSpec.ofChange fnExactAgreesWithinWrong)

/-- 'laws.FnExactWorstVertex': WHATEVER THE INPUT: true; the input reads as it did. -/
def fnExactWorstVertexSpec : ChangeSpec := { name := "fnExactWorstVertex", fn := fun _ => fun
  | [d1, d2] => { results := [.lit (.bool true)], args := [d1, d2] }
  | _ => none }
def fnExactWorstVertexRow : OpenClaim := { program := "ytdnipjkpfpahmaagreat", sum := "89f852110a756aa3efa49d04dbffa92e77998bfc7dcd22d9442df0567f7f440e", func := "loop.example/g01005/laws.FnExactWorstVertex", spec := "fnExactWorstVertex", unfollowed := true, recurses := true, apart := false }
def FnExactWorstVertexSaid : Prop := fnExactWorstVertexRow.holds Tryz.pinned (OpenSpec.ofChange fnExactWorstVertexSpec)

/-- ITS FALSE NEIGHBOUR: 'it returns false'. Refute it at one input. -/
def fnExactWorstVertexWrong : ChangeSpec := { name := "fnExactWorstVertex", fn := fun _ => fun
  | [d1, d2] => { results := [.lit (.bool false)], args := [d1, d2] }
  | _ => none }
def FnExactWorstVertexWrongFalsely : Prop := fnExactWorstVertexRow.holds Tryz.pinned (OpenSpec.ofChange fnExactWorstVertexWrong)

/-- 'laws.FnExactTrustOf': WHATEVER THE INPUT: true; the input reads as it did. -/
def fnExactTrustOfSpec : ChangeSpec := { name := "fnExactTrustOf", fn := fun _ => fun
  | [d1, d2] => { results := [.lit (.bool true)], args := [d1, d2] }
  | _ => none }
def fnExactTrustOfRow : OpenClaim := { program := "ytdnipjkpfpahmaagreat", sum := "89f852110a756aa3efa49d04dbffa92e77998bfc7dcd22d9442df0567f7f440e", func := "loop.example/g01005/laws.FnExactTrustOf", spec := "fnExactTrustOf", unfollowed := true, recurses := true, apart := false }
def FnExactTrustOfSaid : Prop := fnExactTrustOfRow.holds Tryz.pinned (OpenSpec.ofChange fnExactTrustOfSpec)

/-- ITS FALSE NEIGHBOUR: 'it returns false'. Refute it at one input. -/
def fnExactTrustOfWrong : ChangeSpec := { name := "fnExactTrustOf", fn := fun _ => fun
  | [d1, d2] => { results := [.lit (.bool false)], args := [d1, d2] }
  | _ => none }
def FnExactTrustOfWrongFalsely : Prop := fnExactTrustOfRow.holds Tryz.pinned (OpenSpec.ofChange fnExactTrustOfWrong)

/-- 'laws.FnExactRepairWith': WHATEVER THE INPUT: true; the input reads as it did. -/
def fnExactRepairWithSpec : ChangeSpec := { name := "fnExactRepairWith", fn := fun _ => fun
  | [d1, d2, d3] => { results := [.lit (.bool true)], args := [d1, d2, d3] }
  | _ => none }
def fnExactRepairWithRow : OpenClaim := { program := "ytdnipjkpfpahmaagreat", sum := "89f852110a756aa3efa49d04dbffa92e77998bfc7dcd22d9442df0567f7f440e", func := "loop.example/g01005/laws.FnExactRepairWith", spec := "fnExactRepairWith", unfollowed := true, recurses := true, apart := false }
def FnExactRepairWithSaid : Prop := fnExactRepairWithRow.holds Tryz.pinned (OpenSpec.ofChange fnExactRepairWithSpec)

/-- ITS FALSE NEIGHBOUR: 'it returns false'. Refute it at one input. -/
def fnExactRepairWithWrong : ChangeSpec := { name := "fnExactRepairWith", fn := fun _ => fun
  | [d1, d2, d3] => { results := [.lit (.bool false)], args := [d1, d2, d3] }
  | _ => none }
def FnExactRepairWithWrongFalsely : Prop := fnExactRepairWithRow.holds Tryz.pinned (OpenSpec.ofChange fnExactRepairWithWrong)

/-- 'laws.FnExactSmallestRepair': WHATEVER THE INPUT: true; the input reads as it did. -/
def fnExactSmallestRepairSpec : ChangeSpec := { name := "fnExactSmallestRepair", fn := fun _ => fun
  | [d1, d2, d3] => { results := [.lit (.bool true)], args := [d1, d2, d3] }
  | _ => none }
def fnExactSmallestRepairRow : OpenClaim := { program := "ytdnipjkpfpahmaagreat", sum := "89f852110a756aa3efa49d04dbffa92e77998bfc7dcd22d9442df0567f7f440e", func := "loop.example/g01005/laws.FnExactSmallestRepair", spec := "fnExactSmallestRepair", unfollowed := true, recurses := true, apart := false }
def FnExactSmallestRepairSaid : Prop := fnExactSmallestRepairRow.holds Tryz.pinned (OpenSpec.ofChange fnExactSmallestRepairSpec)

/-- ITS FALSE NEIGHBOUR: 'it returns false'. Refute it at one input. -/
def fnExactSmallestRepairWrong : ChangeSpec := { name := "fnExactSmallestRepair", fn := fun _ => fun
  | [d1, d2, d3] => { results := [.lit (.bool false)], args := [d1, d2, d3] }
  | _ => none }
def FnExactSmallestRepairWrongFalsely : Prop := fnExactSmallestRepairRow.holds Tryz.pinned (OpenSpec.ofChange fnExactSmallestRepairWrong)

/-- 'laws.FnRepairs': WHATEVER THE INPUT: true; the input reads as it did. -/
def fnRepairsSpec : ChangeSpec := { name := "fnRepairs", fn := fun _ => fun
  | [d1, d2] => { results := [.lit (.bool true)], args := [d1, d2] }
  | _ => none }
def fnRepairsRow : OpenClaim := { program := "ytdnipjkpfpahmaagreat", sum := "89f852110a756aa3efa49d04dbffa92e77998bfc7dcd22d9442df0567f7f440e", func := "loop.example/g01005/laws.FnRepairs", spec := "fnRepairs", unfollowed := true, recurses := true, apart := false }
def FnRepairsSaid : Prop := fnRepairsRow.holds Tryz.pinned (OpenSpec.ofChange fnRepairsSpec)

/-- ITS FALSE NEIGHBOUR: 'it returns false'. Refute it at one input. -/
def fnRepairsWrong : ChangeSpec := { name := "fnRepairs", fn := fun _ => fun
  | [d1, d2] => { results := [.lit (.bool false)], args := [d1, d2] }
  | _ => none }
def FnRepairsWrongFalsely : Prop := fnRepairsRow.holds Tryz.pinned (OpenSpec.ofChange fnRepairsWrong)

/- THE SECOND FORM. 'bulk': how many values and letters a reading holds, each counted each time it is reached (what is shared counts as often as it is met; a slice's spare places count too). A statement '..UptoSaid' is the law's where the arguments, and the package variables that the reading takes, are together of bulk at most 1048576: NARROWER than '..Said'. Prove '..Said' where nothing that the law and all that it calls make is longer than what came in: it says more and counts as full. Else prove '..UptoSaid'. A law counts once. -/
mutual
def uptoBulk {H : Type} : DataW H → Nat
  | .lit (.string bytes) => bytes.length + 1
  | .lit _ => 1
  | .nil => 1
  | .ptr d => uptoBulk d + 1
  | .slice elems spare => uptoBulkAll elems + uptoBulkAll spare + 1
  | .agg parts => uptoBulkAll parts + 1
  | .iface _ d => uptoBulk d + 1
  | .map entries => uptoBulkEntries entries + 1
  | .held _ => 1
def uptoBulkAll {H : Type} : List (DataW H) → Nat
  | [] => 0
  | d :: r => uptoBulk d + uptoBulkAll r
def uptoBulkEntries {H : Type} : List (Lit × DataW H) → Nat
  | [] => 0
  | x :: r => uptoBulkEntry x + uptoBulkEntries r
def uptoBulkEntry {H : Type} : Lit × DataW H → Nat
  | (.string bytes, d) => bytes.length + uptoBulk d + 1
  | (_, d) => uptoBulk d + 1
 end
def uptoSmall : (H : Type) → List (DataW H) → Bool := fun _ ds => decide (uptoBulkAll ds ≤ 1048576)
def OpenSpec.upto (s : _root_.Go.ChangeSpec) : _root_.Go.OpenSpec := { _root_.Go.OpenSpec.ofChange s with cond := some uptoSmall }

/-- 'laws.FnExactDisagreements', WHERE WHAT IT READS IS OF BULK AT MOST 1048576: true; the input reads as it did. -/
def fnExactDisagreementsUptoRow : OpenClaim := { program := "ytdnipjkpfpahmaagreat", sum := "89f852110a756aa3efa49d04dbffa92e77998bfc7dcd22d9442df0567f7f440e", func := "loop.example/g01005/laws.FnExactDisagreements", spec := "fnExactDisagreements", unfollowed := true, recurses := true, apart := false, narrowed := true }
def FnExactDisagreementsUptoSaid : Prop := fnExactDisagreementsUptoRow.holds Tryz.pinned (OpenSpec.upto fnExactDisagreementsSpec)

/-- 'laws.FnExactIsAgreement', WHERE WHAT IT READS IS OF BULK AT MOST 1048576: true; the input reads as it did. -/
def fnExactIsAgreementUptoRow : OpenClaim := { program := "ytdnipjkpfpahmaagreat", sum := "89f852110a756aa3efa49d04dbffa92e77998bfc7dcd22d9442df0567f7f440e", func := "loop.example/g01005/laws.FnExactIsAgreement", spec := "fnExactIsAgreement", unfollowed := true, recurses := true, apart := false, narrowed := true }
def FnExactIsAgreementUptoSaid : Prop := fnExactIsAgreementUptoRow.holds Tryz.pinned (OpenSpec.upto fnExactIsAgreementSpec)

/-- 'laws.FnExactAgreesWithin', WHERE WHAT IT READS IS OF BULK AT MOST 1048576: true; the input reads as it did. -/
def fnExactAgreesWithinUptoRow : OpenClaim := { program := "ytdnipjkpfpahmaagreat", sum := "89f852110a756aa3efa49d04dbffa92e77998bfc7dcd22d9442df0567f7f440e", func := "loop.example/g01005/laws.FnExactAgreesWithin", spec := "fnExactAgreesWithin", unfollowed := true, recurses := true, apart := false, narrowed := true }
def FnExactAgreesWithinUptoSaid : Prop := fnExactAgreesWithinUptoRow.holds Tryz.pinned (OpenSpec.upto fnExactAgreesWithinSpec)

/-- 'laws.FnExactWorstVertex', WHERE WHAT IT READS IS OF BULK AT MOST 1048576: true; the input reads as it did. -/
def fnExactWorstVertexUptoRow : OpenClaim := { program := "ytdnipjkpfpahmaagreat", sum := "89f852110a756aa3efa49d04dbffa92e77998bfc7dcd22d9442df0567f7f440e", func := "loop.example/g01005/laws.FnExactWorstVertex", spec := "fnExactWorstVertex", unfollowed := true, recurses := true, apart := false, narrowed := true }
def FnExactWorstVertexUptoSaid : Prop := fnExactWorstVertexUptoRow.holds Tryz.pinned (OpenSpec.upto fnExactWorstVertexSpec)

/-- 'laws.FnExactTrustOf', WHERE WHAT IT READS IS OF BULK AT MOST 1048576: true; the input reads as it did. -/
def fnExactTrustOfUptoRow : OpenClaim := { program := "ytdnipjkpfpahmaagreat", sum := "89f852110a756aa3efa49d04dbffa92e77998bfc7dcd22d9442df0567f7f440e", func := "loop.example/g01005/laws.FnExactTrustOf", spec := "fnExactTrustOf", unfollowed := true, recurses := true, apart := false, narrowed := true }
def FnExactTrustOfUptoSaid : Prop := fnExactTrustOfUptoRow.holds Tryz.pinned (OpenSpec.upto fnExactTrustOfSpec)

/-- 'laws.FnExactRepairWith', WHERE WHAT IT READS IS OF BULK AT MOST 1048576: true; the input reads as it did. -/
def fnExactRepairWithUptoRow : OpenClaim := { program := "ytdnipjkpfpahmaagreat", sum := "89f852110a756aa3efa49d04dbffa92e77998bfc7dcd22d9442df0567f7f440e", func := "loop.example/g01005/laws.FnExactRepairWith", spec := "fnExactRepairWith", unfollowed := true, recurses := true, apart := false, narrowed := true }
def FnExactRepairWithUptoSaid : Prop := fnExactRepairWithUptoRow.holds Tryz.pinned (OpenSpec.upto fnExactRepairWithSpec)

/-- 'laws.FnExactSmallestRepair', WHERE WHAT IT READS IS OF BULK AT MOST 1048576: true; the input reads as it did. -/
def fnExactSmallestRepairUptoRow : OpenClaim := { program := "ytdnipjkpfpahmaagreat", sum := "89f852110a756aa3efa49d04dbffa92e77998bfc7dcd22d9442df0567f7f440e", func := "loop.example/g01005/laws.FnExactSmallestRepair", spec := "fnExactSmallestRepair", unfollowed := true, recurses := true, apart := false, narrowed := true }
def FnExactSmallestRepairUptoSaid : Prop := fnExactSmallestRepairUptoRow.holds Tryz.pinned (OpenSpec.upto fnExactSmallestRepairSpec)

/-- 'laws.FnRepairs', WHERE WHAT IT READS IS OF BULK AT MOST 1048576: true; the input reads as it did. -/
def fnRepairsUptoRow : OpenClaim := { program := "ytdnipjkpfpahmaagreat", sum := "89f852110a756aa3efa49d04dbffa92e77998bfc7dcd22d9442df0567f7f440e", func := "loop.example/g01005/laws.FnRepairs", spec := "fnRepairs", unfollowed := true, recurses := true, apart := false, narrowed := true }
def FnRepairsUptoSaid : Prop := fnRepairsUptoRow.holds Tryz.pinned (OpenSpec.upto fnRepairsSpec)

end Rows
end Go.Proofs.YtdnipjkpfpahmaaGreat
