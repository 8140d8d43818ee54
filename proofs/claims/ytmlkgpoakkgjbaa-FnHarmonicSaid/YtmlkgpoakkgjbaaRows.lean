/-
  No cell of these rows narrows 'for every input' (looked for: loops, veiled, ifaces, maps, wideKeys, modest, calm, conditions, laid).
  DERIVED. THE GIVEN ROWS OF THIS SEAT. 23 by the template 'for every input the law returns true; each argument reads behind the call as it read before'; 0 by the template 'total and deterministic' (their statements: YtmlkgpoakkgjbaaTotals.lean).
  GIVEN WITH THE SEED: the statements are not yours to turn. If you find one false, say at which input.
  Laid BY PROGRAM, IN A SANDBOX (cutbox-rows.mjs): the forced cells as the released guide's own fill.sh prints them over the translation 3a9889b86ab8b225… (all of the seat's roots in one cut). By AI agents, Wed Nov 11 2026. No macro, syntax, notation, axiom, sorry.
-/
import Derived.Test.YtmlkgpoakkgjbaaChecked
import GoSem.Claim
import GoSem.ClaimJoined
import GoSem.ClaimMapViews
import Derived.JoinedTies
import Derived.KernelRfl
namespace Go.Proofs.Ytmlkgpoakkgjbaa
/- THE CELL 'sum', in the pinned program and in every row, IS THE sha256 OF THE DUMP (.gsa) THAT YtmlkgpoakkgjbaaProg.lean LOADS. Nothing in Lean hashes anything: it is a label: what it is worth is what the hold of that sum in a sandbox is worth. -/
noncomputable def Try.pinned : Pinned := { name := "ytmlkgpoakkgjbaa", sum := "3a9889b86ab8b225ed1cb2eb7b36a416ee2a8404bc25073faa38fcc1a4ae7b2d", checked := Try.checked }
namespace Rows
def none {H : Type} : Left H := { results := [], args := [] }

/-- 'laws.FnExactPeaksOf': WHATEVER THE INPUT: true; the input reads as it did. -/
def fnExactPeaksOfSpec : ChangeSpec := { name := "fnExactPeaksOf", fn := fun _ => fun
  | [d1, d2] => { results := [.lit (.bool true)], args := [d1, d2] }
  | _ => none }
def fnExactPeaksOfRow : OpenClaim := { program := "ytmlkgpoakkgjbaa", sum := "3a9889b86ab8b225ed1cb2eb7b36a416ee2a8404bc25073faa38fcc1a4ae7b2d", func := "loop.example/g01005/laws.FnExactPeaksOf", spec := "fnExactPeaksOf", unfollowed := true, recurses := true, apart := false }
def FnExactPeaksOfSaid : Prop := fnExactPeaksOfRow.holds Try.pinned (OpenSpec.ofChange fnExactPeaksOfSpec)

/-- ITS FALSE NEIGHBOUR: 'it returns false'. Refute it at one input. -/
def fnExactPeaksOfWrong : ChangeSpec := { name := "fnExactPeaksOf", fn := fun _ => fun
  | [d1, d2] => { results := [.lit (.bool false)], args := [d1, d2] }
  | _ => none }
def FnExactPeaksOfWrongFalsely : Prop := fnExactPeaksOfRow.holds Try.pinned (OpenSpec.ofChange fnExactPeaksOfWrong)

/-- 'laws.FnExactMajorityStep': WHATEVER THE INPUT: true; the input reads as it did. -/
def fnExactMajorityStepSpec : ChangeSpec := { name := "fnExactMajorityStep", fn := fun _ => fun
  | [d1, d2] => { results := [.lit (.bool true)], args := [d1, d2] }
  | _ => none }
def fnExactMajorityStepRow : OpenClaim := { program := "ytmlkgpoakkgjbaa", sum := "3a9889b86ab8b225ed1cb2eb7b36a416ee2a8404bc25073faa38fcc1a4ae7b2d", func := "loop.example/g01005/laws.FnExactMajorityStep", spec := "fnExactMajorityStep", unfollowed := true, recurses := true, apart := false }
def FnExactMajorityStepSaid : Prop := fnExactMajorityStepRow.holds Try.pinned (OpenSpec.ofChange fnExactMajorityStepSpec)

/-- ITS FALSE NEIGHBOUR: 'it returns false'. Refute it at one input. -/
def fnExactMajorityStepWrong : ChangeSpec := { name := "fnExactMajorityStep", fn := fun _ => fun
  | [d1, d2] => { results := [.lit (.bool false)], args := [d1, d2] }
  | _ => none }
def FnExactMajorityStepWrongFalsely : Prop := fnExactMajorityStepRow.holds Try.pinned (OpenSpec.ofChange fnExactMajorityStepWrong)

/-- 'laws.FnExactMajorityRest': WHATEVER THE INPUT: true; the input reads as it did. -/
def fnExactMajorityRestSpec : ChangeSpec := { name := "fnExactMajorityRest", fn := fun _ => fun
  | [d1, d2] => { results := [.lit (.bool true)], args := [d1, d2] }
  | _ => none }
def fnExactMajorityRestRow : OpenClaim := { program := "ytmlkgpoakkgjbaa", sum := "3a9889b86ab8b225ed1cb2eb7b36a416ee2a8404bc25073faa38fcc1a4ae7b2d", func := "loop.example/g01005/laws.FnExactMajorityRest", spec := "fnExactMajorityRest", unfollowed := true, recurses := true, apart := false }
def FnExactMajorityRestSaid : Prop := fnExactMajorityRestRow.holds Try.pinned (OpenSpec.ofChange fnExactMajorityRestSpec)

/-- ITS FALSE NEIGHBOUR: 'it returns false'. Refute it at one input. -/
def fnExactMajorityRestWrong : ChangeSpec := { name := "fnExactMajorityRest", fn := fun _ => fun
  | [d1, d2] => { results := [.lit (.bool false)], args := [d1, d2] }
  | _ => none }
def FnExactMajorityRestWrongFalsely : Prop := fnExactMajorityRestRow.holds Try.pinned (OpenSpec.ofChange fnExactMajorityRestWrong)

/-- 'laws.FnExactCampsOf': WHATEVER THE INPUT: true; the input reads as it did. -/
def fnExactCampsOfSpec : ChangeSpec := { name := "fnExactCampsOf", fn := fun _ => fun
  | [d1, d2, d3] => { results := [.lit (.bool true)], args := [d1, d2, d3] }
  | _ => none }
def fnExactCampsOfRow : OpenClaim := { program := "ytmlkgpoakkgjbaa", sum := "3a9889b86ab8b225ed1cb2eb7b36a416ee2a8404bc25073faa38fcc1a4ae7b2d", func := "loop.example/g01005/laws.FnExactCampsOf", spec := "fnExactCampsOf", unfollowed := true, recurses := true, apart := false }
def FnExactCampsOfSaid : Prop := fnExactCampsOfRow.holds Try.pinned (OpenSpec.ofChange fnExactCampsOfSpec)

/-- ITS FALSE NEIGHBOUR: 'it returns false'. Refute it at one input. -/
def fnExactCampsOfWrong : ChangeSpec := { name := "fnExactCampsOf", fn := fun _ => fun
  | [d1, d2, d3] => { results := [.lit (.bool false)], args := [d1, d2, d3] }
  | _ => none }
def FnExactCampsOfWrongFalsely : Prop := fnExactCampsOfRow.holds Try.pinned (OpenSpec.ofChange fnExactCampsOfWrong)

/-- 'laws.FnExactBoundedStep': WHATEVER THE INPUT: true; the input reads as it did. -/
def fnExactBoundedStepSpec : ChangeSpec := { name := "fnExactBoundedStep", fn := fun _ => fun
  | [d1, d2, d3, d4, d5] => { results := [.lit (.bool true)], args := [d1, d2, d3, d4, d5] }
  | _ => none }
def fnExactBoundedStepRow : OpenClaim := { program := "ytmlkgpoakkgjbaa", sum := "3a9889b86ab8b225ed1cb2eb7b36a416ee2a8404bc25073faa38fcc1a4ae7b2d", func := "loop.example/g01005/laws.FnExactBoundedStep", spec := "fnExactBoundedStep", unfollowed := true, recurses := true, apart := false }
def FnExactBoundedStepSaid : Prop := fnExactBoundedStepRow.holds Try.pinned (OpenSpec.ofChange fnExactBoundedStepSpec)

/-- ITS FALSE NEIGHBOUR: 'it returns false'. Refute it at one input. -/
def fnExactBoundedStepWrong : ChangeSpec := { name := "fnExactBoundedStep", fn := fun _ => fun
  | [d1, d2, d3, d4, d5] => { results := [.lit (.bool false)], args := [d1, d2, d3, d4, d5] }
  | _ => none }
def FnExactBoundedStepWrongFalsely : Prop := fnExactBoundedStepRow.holds Try.pinned (OpenSpec.ofChange fnExactBoundedStepWrong)

/-- 'laws.FnExactAverageStep': WHATEVER THE INPUT: true; the input reads as it did. -/
def fnExactAverageStepSpec : ChangeSpec := { name := "fnExactAverageStep", fn := fun _ => fun
  | [d1, d2, d3, d4] => { results := [.lit (.bool true)], args := [d1, d2, d3, d4] }
  | _ => none }
def fnExactAverageStepRow : OpenClaim := { program := "ytmlkgpoakkgjbaa", sum := "3a9889b86ab8b225ed1cb2eb7b36a416ee2a8404bc25073faa38fcc1a4ae7b2d", func := "loop.example/g01005/laws.FnExactAverageStep", spec := "fnExactAverageStep", unfollowed := true, recurses := true, apart := false }
def FnExactAverageStepSaid : Prop := fnExactAverageStepRow.holds Try.pinned (OpenSpec.ofChange fnExactAverageStepSpec)

/-- ITS FALSE NEIGHBOUR: 'it returns false'. Refute it at one input. -/
def fnExactAverageStepWrong : ChangeSpec := { name := "fnExactAverageStep", fn := fun _ => fun
  | [d1, d2, d3, d4] => { results := [.lit (.bool false)], args := [d1, d2, d3, d4] }
  | _ => none }
def FnExactAverageStepWrongFalsely : Prop := fnExactAverageStepRow.holds Try.pinned (OpenSpec.ofChange fnExactAverageStepWrong)

/-- 'laws.FnExactRunRounds': WHATEVER THE INPUT: true; the input reads as it did. -/
def fnExactRunRoundsSpec : ChangeSpec := { name := "fnExactRunRounds", fn := fun _ => fun
  | [d1, d2, d3, d4, d5] => { results := [.lit (.bool true)], args := [d1, d2, d3, d4, d5] }
  | _ => none }
def fnExactRunRoundsRow : OpenClaim := { program := "ytmlkgpoakkgjbaa", sum := "3a9889b86ab8b225ed1cb2eb7b36a416ee2a8404bc25073faa38fcc1a4ae7b2d", func := "loop.example/g01005/laws.FnExactRunRounds", spec := "fnExactRunRounds", unfollowed := true, recurses := true, apart := false }
def FnExactRunRoundsSaid : Prop := fnExactRunRoundsRow.holds Try.pinned (OpenSpec.ofChange fnExactRunRoundsSpec)

/-- ITS FALSE NEIGHBOUR: 'it returns false'. Refute it at one input. -/
def fnExactRunRoundsWrong : ChangeSpec := { name := "fnExactRunRounds", fn := fun _ => fun
  | [d1, d2, d3, d4, d5] => { results := [.lit (.bool false)], args := [d1, d2, d3, d4, d5] }
  | _ => none }
def FnExactRunRoundsWrongFalsely : Prop := fnExactRunRoundsRow.holds Try.pinned (OpenSpec.ofChange fnExactRunRoundsWrong)

/-- 'laws.FnExactRoundsToRest': WHATEVER THE INPUT: true; the input reads as it did. -/
def fnExactRoundsToRestSpec : ChangeSpec := { name := "fnExactRoundsToRest", fn := fun _ => fun
  | [d1, d2, d3, d4] => { results := [.lit (.bool true)], args := [d1, d2, d3, d4] }
  | _ => none }
def fnExactRoundsToRestRow : OpenClaim := { program := "ytmlkgpoakkgjbaa", sum := "3a9889b86ab8b225ed1cb2eb7b36a416ee2a8404bc25073faa38fcc1a4ae7b2d", func := "loop.example/g01005/laws.FnExactRoundsToRest", spec := "fnExactRoundsToRest", unfollowed := true, recurses := true, apart := false }
def FnExactRoundsToRestSaid : Prop := fnExactRoundsToRestRow.holds Try.pinned (OpenSpec.ofChange fnExactRoundsToRestSpec)

/-- ITS FALSE NEIGHBOUR: 'it returns false'. Refute it at one input. -/
def fnExactRoundsToRestWrong : ChangeSpec := { name := "fnExactRoundsToRest", fn := fun _ => fun
  | [d1, d2, d3, d4] => { results := [.lit (.bool false)], args := [d1, d2, d3, d4] }
  | _ => none }
def FnExactRoundsToRestWrongFalsely : Prop := fnExactRoundsToRestRow.holds Try.pinned (OpenSpec.ofChange fnExactRoundsToRestWrong)

/-- 'laws.FnExactFewestFixed': WHATEVER THE INPUT: true; the input reads as it did. -/
def fnExactFewestFixedSpec : ChangeSpec := { name := "fnExactFewestFixed", fn := fun _ => fun
  | [d1, d2, d3, d4, d5] => { results := [.lit (.bool true)], args := [d1, d2, d3, d4, d5] }
  | _ => none }
def fnExactFewestFixedRow : OpenClaim := { program := "ytmlkgpoakkgjbaa", sum := "3a9889b86ab8b225ed1cb2eb7b36a416ee2a8404bc25073faa38fcc1a4ae7b2d", func := "loop.example/g01005/laws.FnExactFewestFixed", spec := "fnExactFewestFixed", unfollowed := true, recurses := true, apart := false }
def FnExactFewestFixedSaid : Prop := fnExactFewestFixedRow.holds Try.pinned (OpenSpec.ofChange fnExactFewestFixedSpec)

/-- ITS FALSE NEIGHBOUR: 'it returns false'. Refute it at one input. -/
def fnExactFewestFixedWrong : ChangeSpec := { name := "fnExactFewestFixed", fn := fun _ => fun
  | [d1, d2, d3, d4, d5] => { results := [.lit (.bool false)], args := [d1, d2, d3, d4, d5] }
  | _ => none }
def FnExactFewestFixedWrongFalsely : Prop := fnExactFewestFixedRow.holds Try.pinned (OpenSpec.ofChange fnExactFewestFixedWrong)

/-- 'laws.FnExactIsHarmonic': WHATEVER THE INPUT: true; the input reads as it did. -/
def fnExactIsHarmonicSpec : ChangeSpec := { name := "fnExactIsHarmonic", fn := fun _ => fun
  | [d1, d2, d3] => { results := [.lit (.bool true)], args := [d1, d2, d3] }
  | _ => none }
def fnExactIsHarmonicRow : OpenClaim := { program := "ytmlkgpoakkgjbaa", sum := "3a9889b86ab8b225ed1cb2eb7b36a416ee2a8404bc25073faa38fcc1a4ae7b2d", func := "loop.example/g01005/laws.FnExactIsHarmonic", spec := "fnExactIsHarmonic", unfollowed := true, recurses := true, apart := false }
def FnExactIsHarmonicSaid : Prop := fnExactIsHarmonicRow.holds Try.pinned (OpenSpec.ofChange fnExactIsHarmonicSpec)

/-- ITS FALSE NEIGHBOUR: 'it returns false'. Refute it at one input. -/
def fnExactIsHarmonicWrong : ChangeSpec := { name := "fnExactIsHarmonic", fn := fun _ => fun
  | [d1, d2, d3] => { results := [.lit (.bool false)], args := [d1, d2, d3] }
  | _ => none }
def FnExactIsHarmonicWrongFalsely : Prop := fnExactIsHarmonicRow.holds Try.pinned (OpenSpec.ofChange fnExactIsHarmonicWrong)

/-- 'laws.FnExactLightestCut': WHATEVER THE INPUT: true; the input reads as it did. -/
def fnExactLightestCutSpec : ChangeSpec := { name := "fnExactLightestCut", fn := fun _ => fun
  | [d] => { results := [.lit (.bool true)], args := [d] }
  | _ => none }
def fnExactLightestCutRow : OpenClaim := { program := "ytmlkgpoakkgjbaa", sum := "3a9889b86ab8b225ed1cb2eb7b36a416ee2a8404bc25073faa38fcc1a4ae7b2d", func := "loop.example/g01005/laws.FnExactLightestCut", spec := "fnExactLightestCut", apart := false }
def FnExactLightestCutSaid : Prop := fnExactLightestCutRow.holds Try.pinned (OpenSpec.ofChange fnExactLightestCutSpec)

/-- ITS FALSE NEIGHBOUR: 'it returns false'. Refute it at one input. -/
def fnExactLightestCutWrong : ChangeSpec := { name := "fnExactLightestCut", fn := fun _ => fun
  | [d] => { results := [.lit (.bool false)], args := [d] }
  | _ => none }
def FnExactLightestCutWrongFalsely : Prop := fnExactLightestCutRow.holds Try.pinned (OpenSpec.ofChange fnExactLightestCutWrong)

/-- 'laws.FnLaplacians': WHATEVER THE INPUT: true; the input reads as it did. -/
def fnLaplaciansSpec : ChangeSpec := { name := "fnLaplacians", fn := fun _ => fun
  | [d1, d2] => { results := [.lit (.bool true)], args := [d1, d2] }
  | _ => none }
def fnLaplaciansRow : OpenClaim := { program := "ytmlkgpoakkgjbaa", sum := "3a9889b86ab8b225ed1cb2eb7b36a416ee2a8404bc25073faa38fcc1a4ae7b2d", func := "loop.example/g01005/laws.FnLaplacians", spec := "fnLaplacians", unfollowed := true, recurses := true, apart := false }
def FnLaplaciansSaid : Prop := fnLaplaciansRow.holds Try.pinned (OpenSpec.ofChange fnLaplaciansSpec)

/-- ITS FALSE NEIGHBOUR: 'it returns false'. Refute it at one input. -/
def fnLaplaciansWrong : ChangeSpec := { name := "fnLaplacians", fn := fun _ => fun
  | [d1, d2] => { results := [.lit (.bool false)], args := [d1, d2] }
  | _ => none }
def FnLaplaciansWrongFalsely : Prop := fnLaplaciansRow.holds Try.pinned (OpenSpec.ofChange fnLaplaciansWrong)

/-- 'laws.FnMajorities': WHATEVER THE INPUT: true; the input reads as it did. -/
def fnMajoritiesSpec : ChangeSpec := { name := "fnMajorities", fn := fun _ => fun
  | [d1, d2] => { results := [.lit (.bool true)], args := [d1, d2] }
  | _ => none }
def fnMajoritiesRow : OpenClaim := { program := "ytmlkgpoakkgjbaa", sum := "3a9889b86ab8b225ed1cb2eb7b36a416ee2a8404bc25073faa38fcc1a4ae7b2d", func := "loop.example/g01005/laws.FnMajorities", spec := "fnMajorities", unfollowed := true, recurses := true, apart := false }
def FnMajoritiesSaid : Prop := fnMajoritiesRow.holds Try.pinned (OpenSpec.ofChange fnMajoritiesSpec)

/-- ITS FALSE NEIGHBOUR: 'it returns false'. Refute it at one input. -/
def fnMajoritiesWrong : ChangeSpec := { name := "fnMajorities", fn := fun _ => fun
  | [d1, d2] => { results := [.lit (.bool false)], args := [d1, d2] }
  | _ => none }
def FnMajoritiesWrongFalsely : Prop := fnMajoritiesRow.holds Try.pinned (OpenSpec.ofChange fnMajoritiesWrong)

/-- 'laws.FnOpinions': WHATEVER THE INPUT: true; the input reads as it did. -/
def fnOpinionsSpec : ChangeSpec := { name := "fnOpinions", fn := fun _ => fun
  | [d1, d2] => { results := [.lit (.bool true)], args := [d1, d2] }
  | _ => none }
def fnOpinionsRow : OpenClaim := { program := "ytmlkgpoakkgjbaa", sum := "3a9889b86ab8b225ed1cb2eb7b36a416ee2a8404bc25073faa38fcc1a4ae7b2d", func := "loop.example/g01005/laws.FnOpinions", spec := "fnOpinions", unfollowed := true, recurses := true, apart := false }
def FnOpinionsSaid : Prop := fnOpinionsRow.holds Try.pinned (OpenSpec.ofChange fnOpinionsSpec)

/-- ITS FALSE NEIGHBOUR: 'it returns false'. Refute it at one input. -/
def fnOpinionsWrong : ChangeSpec := { name := "fnOpinions", fn := fun _ => fun
  | [d1, d2] => { results := [.lit (.bool false)], args := [d1, d2] }
  | _ => none }
def FnOpinionsWrongFalsely : Prop := fnOpinionsRow.holds Try.pinned (OpenSpec.ofChange fnOpinionsWrong)

/-- 'laws.FnExactHarmonicModulo': WHATEVER THE INPUT: true; the input reads as it did. -/
def fnExactHarmonicModuloSpec : ChangeSpec := { name := "fnExactHarmonicModulo", fn := fun _ => fun
  | [d1, d2, d3, d4] => { results := [.lit (.bool true)], args := [d1, d2, d3, d4] }
  | _ => none }
def fnExactHarmonicModuloRow : OpenClaim := { program := "ytmlkgpoakkgjbaa", sum := "3a9889b86ab8b225ed1cb2eb7b36a416ee2a8404bc25073faa38fcc1a4ae7b2d", func := "loop.example/g01005/laws.FnExactHarmonicModulo", spec := "fnExactHarmonicModulo", unfollowed := true, recurses := true, apart := false }
def FnExactHarmonicModuloSaid : Prop := fnExactHarmonicModuloRow.holds Try.pinned (OpenSpec.ofChange fnExactHarmonicModuloSpec)

/-- ITS FALSE NEIGHBOUR: 'it returns false'. Refute it at one input. -/
def fnExactHarmonicModuloWrong : ChangeSpec := { name := "fnExactHarmonicModulo", fn := fun _ => fun
  | [d1, d2, d3, d4] => { results := [.lit (.bool false)], args := [d1, d2, d3, d4] }
  | _ => none }
def FnExactHarmonicModuloWrongFalsely : Prop := fnExactHarmonicModuloRow.holds Try.pinned (OpenSpec.ofChange fnExactHarmonicModuloWrong)

/-- 'laws.FnHarmonic': WHATEVER THE INPUT: true; the input reads as it did. -/
def fnHarmonicSpec : ChangeSpec := { name := "fnHarmonic", fn := fun _ => fun
  | [d1, d2] => { results := [.lit (.bool true)], args := [d1, d2] }
  | _ => none }
def fnHarmonicRow : OpenClaim := { program := "ytmlkgpoakkgjbaa", sum := "3a9889b86ab8b225ed1cb2eb7b36a416ee2a8404bc25073faa38fcc1a4ae7b2d", func := "loop.example/g01005/laws.FnHarmonic", spec := "fnHarmonic", unfollowed := true, recurses := true, apart := false }
def FnHarmonicSaid : Prop := fnHarmonicRow.holds Try.pinned (OpenSpec.ofChange fnHarmonicSpec)

/-- ITS FALSE NEIGHBOUR: 'it returns false'. Refute it at one input. -/
def fnHarmonicWrong : ChangeSpec := { name := "fnHarmonic", fn := fun _ => fun
  | [d1, d2] => { results := [.lit (.bool false)], args := [d1, d2] }
  | _ => none }
def FnHarmonicWrongFalsely : Prop := fnHarmonicRow.holds Try.pinned (OpenSpec.ofChange fnHarmonicWrong)

/-- 'laws.FnExactCountTrees': WHATEVER THE INPUT: true; the input reads as it did. -/
def fnExactCountTreesSpec : ChangeSpec := { name := "fnExactCountTrees", fn := fun _ => fun
  | [d] => { results := [.lit (.bool true)], args := [d] }
  | _ => none }
def fnExactCountTreesRow : OpenClaim := { program := "ytmlkgpoakkgjbaa", sum := "3a9889b86ab8b225ed1cb2eb7b36a416ee2a8404bc25073faa38fcc1a4ae7b2d", func := "loop.example/g01005/laws.FnExactCountTrees", spec := "fnExactCountTrees", unfollowed := true, recurses := true, apart := false }
def FnExactCountTreesSaid : Prop := fnExactCountTreesRow.holds Try.pinned (OpenSpec.ofChange fnExactCountTreesSpec)

/-- ITS FALSE NEIGHBOUR: 'it returns false'. Refute it at one input. -/
def fnExactCountTreesWrong : ChangeSpec := { name := "fnExactCountTrees", fn := fun _ => fun
  | [d] => { results := [.lit (.bool false)], args := [d] }
  | _ => none }
def FnExactCountTreesWrongFalsely : Prop := fnExactCountTreesRow.holds Try.pinned (OpenSpec.ofChange fnExactCountTreesWrong)

/-- 'laws.FnExactResistanceOf': WHATEVER THE INPUT: true; the input reads as it did. -/
def fnExactResistanceOfSpec : ChangeSpec := { name := "fnExactResistanceOf", fn := fun _ => fun
  | [d1, d2, d3] => { results := [.lit (.bool true)], args := [d1, d2, d3] }
  | _ => none }
def fnExactResistanceOfRow : OpenClaim := { program := "ytmlkgpoakkgjbaa", sum := "3a9889b86ab8b225ed1cb2eb7b36a416ee2a8404bc25073faa38fcc1a4ae7b2d", func := "loop.example/g01005/laws.FnExactResistanceOf", spec := "fnExactResistanceOf", unfollowed := true, recurses := true, apart := false }
def FnExactResistanceOfSaid : Prop := fnExactResistanceOfRow.holds Try.pinned (OpenSpec.ofChange fnExactResistanceOfSpec)

/-- ITS FALSE NEIGHBOUR: 'it returns false'. Refute it at one input. -/
def fnExactResistanceOfWrong : ChangeSpec := { name := "fnExactResistanceOf", fn := fun _ => fun
  | [d1, d2, d3] => { results := [.lit (.bool false)], args := [d1, d2, d3] }
  | _ => none }
def FnExactResistanceOfWrongFalsely : Prop := fnExactResistanceOfRow.holds Try.pinned (OpenSpec.ofChange fnExactResistanceOfWrong)

/-- 'laws.FnTrees': WHATEVER THE INPUT: true; the input reads as it did. -/
def fnTreesSpec : ChangeSpec := { name := "fnTrees", fn := fun _ => fun
  | [d1, d2] => { results := [.lit (.bool true)], args := [d1, d2] }
  | _ => none }
def fnTreesRow : OpenClaim := { program := "ytmlkgpoakkgjbaa", sum := "3a9889b86ab8b225ed1cb2eb7b36a416ee2a8404bc25073faa38fcc1a4ae7b2d", func := "loop.example/g01005/laws.FnTrees", spec := "fnTrees", unfollowed := true, recurses := true, apart := false }
def FnTreesSaid : Prop := fnTreesRow.holds Try.pinned (OpenSpec.ofChange fnTreesSpec)

/-- ITS FALSE NEIGHBOUR: 'it returns false'. Refute it at one input. -/
def fnTreesWrong : ChangeSpec := { name := "fnTrees", fn := fun _ => fun
  | [d1, d2] => { results := [.lit (.bool false)], args := [d1, d2] }
  | _ => none }
def FnTreesWrongFalsely : Prop := fnTreesRow.holds Try.pinned (OpenSpec.ofChange fnTreesWrong)

/-- 'laws.FnExactGreatestFlow': WHATEVER THE INPUT: true; the input reads as it did. -/
def fnExactGreatestFlowSpec : ChangeSpec := { name := "fnExactGreatestFlow", fn := fun _ => fun
  | [d] => { results := [.lit (.bool true)], args := [d] }
  | _ => none }
def fnExactGreatestFlowRow : OpenClaim := { program := "ytmlkgpoakkgjbaa", sum := "3a9889b86ab8b225ed1cb2eb7b36a416ee2a8404bc25073faa38fcc1a4ae7b2d", func := "loop.example/g01005/laws.FnExactGreatestFlow", spec := "fnExactGreatestFlow", unfollowed := true, recurses := true, apart := false }
def FnExactGreatestFlowSaid : Prop := fnExactGreatestFlowRow.holds Try.pinned (OpenSpec.ofChange fnExactGreatestFlowSpec)

/-- ITS FALSE NEIGHBOUR: 'it returns false'. Refute it at one input. -/
def fnExactGreatestFlowWrong : ChangeSpec := { name := "fnExactGreatestFlow", fn := fun _ => fun
  | [d] => { results := [.lit (.bool false)], args := [d] }
  | _ => none }
def FnExactGreatestFlowWrongFalsely : Prop := fnExactGreatestFlowRow.holds Try.pinned (OpenSpec.ofChange fnExactGreatestFlowWrong)

/-- 'laws.FnExactNarrowCut': WHATEVER THE INPUT: true; the input reads as it did. -/
def fnExactNarrowCutSpec : ChangeSpec := { name := "fnExactNarrowCut", fn := fun _ => fun
  | [d] => { results := [.lit (.bool true)], args := [d] }
  | _ => none }
def fnExactNarrowCutRow : OpenClaim := { program := "ytmlkgpoakkgjbaa", sum := "3a9889b86ab8b225ed1cb2eb7b36a416ee2a8404bc25073faa38fcc1a4ae7b2d", func := "loop.example/g01005/laws.FnExactNarrowCut", spec := "fnExactNarrowCut", unfollowed := true, recurses := true, apart := false }
def FnExactNarrowCutSaid : Prop := fnExactNarrowCutRow.holds Try.pinned (OpenSpec.ofChange fnExactNarrowCutSpec)

/-- ITS FALSE NEIGHBOUR: 'it returns false'. Refute it at one input. -/
def fnExactNarrowCutWrong : ChangeSpec := { name := "fnExactNarrowCut", fn := fun _ => fun
  | [d] => { results := [.lit (.bool false)], args := [d] }
  | _ => none }
def FnExactNarrowCutWrongFalsely : Prop := fnExactNarrowCutRow.holds Try.pinned (OpenSpec.ofChange fnExactNarrowCutWrong)

/-- 'laws.FnExactNarrowArcs': WHATEVER THE INPUT: true; the input reads as it did. -/
def fnExactNarrowArcsSpec : ChangeSpec := { name := "fnExactNarrowArcs", fn := fun _ => fun
  | [d] => { results := [.lit (.bool true)], args := [d] }
  | _ => none }
def fnExactNarrowArcsRow : OpenClaim := { program := "ytmlkgpoakkgjbaa", sum := "3a9889b86ab8b225ed1cb2eb7b36a416ee2a8404bc25073faa38fcc1a4ae7b2d", func := "loop.example/g01005/laws.FnExactNarrowArcs", spec := "fnExactNarrowArcs", unfollowed := true, recurses := true, apart := false }
def FnExactNarrowArcsSaid : Prop := fnExactNarrowArcsRow.holds Try.pinned (OpenSpec.ofChange fnExactNarrowArcsSpec)

/-- ITS FALSE NEIGHBOUR: 'it returns false'. Refute it at one input. -/
def fnExactNarrowArcsWrong : ChangeSpec := { name := "fnExactNarrowArcs", fn := fun _ => fun
  | [d] => { results := [.lit (.bool false)], args := [d] }
  | _ => none }
def FnExactNarrowArcsWrongFalsely : Prop := fnExactNarrowArcsRow.holds Try.pinned (OpenSpec.ofChange fnExactNarrowArcsWrong)

/-- 'laws.FnCuts': WHATEVER THE INPUT: true; the input reads as it did. -/
def fnCutsSpec : ChangeSpec := { name := "fnCuts", fn := fun _ => fun
  | [d] => { results := [.lit (.bool true)], args := [d] }
  | _ => none }
def fnCutsRow : OpenClaim := { program := "ytmlkgpoakkgjbaa", sum := "3a9889b86ab8b225ed1cb2eb7b36a416ee2a8404bc25073faa38fcc1a4ae7b2d", func := "loop.example/g01005/laws.FnCuts", spec := "fnCuts", unfollowed := true, recurses := true, apart := false }
def FnCutsSaid : Prop := fnCutsRow.holds Try.pinned (OpenSpec.ofChange fnCutsSpec)

/-- ITS FALSE NEIGHBOUR: 'it returns false'. Refute it at one input. -/
def fnCutsWrong : ChangeSpec := { name := "fnCuts", fn := fun _ => fun
  | [d] => { results := [.lit (.bool false)], args := [d] }
  | _ => none }
def FnCutsWrongFalsely : Prop := fnCutsRow.holds Try.pinned (OpenSpec.ofChange fnCutsWrong)

/- THE SECOND FORM. 'bulk': how many values and letters a reading holds, each counted each time it is reached (what is shared counts as often as it is met; a slice's spare places count too). A statement '..UptoSaid' is the law's where the arguments, and the package variables that the reading takes, are together of bulk at most 1048576: NARROWER than '..Said'. Prove '..Said' where nothing that the law and all that it calls make is longer than what came in: it says more and counts as full. Else prove '..UptoSaid'. A law counts once. -/
mutual
def uptoBulk {H : Type} : DataW H → Nat
  | .lit (.string bytes) => bytes.length + 1
  | .lit _ => 1
  | .nil => 1
  | .ptr d => uptoBulk d + 1
  | .slice elems spare => uptoBulkAll elems + uptoBulkAll spare + 1
  | .agg parts => uptoBulkAll parts + 1
  | .iface _ d => uptoBulk d + 1
  | .map entries => uptoBulkEntries entries + 1
  | .held _ => 1
def uptoBulkAll {H : Type} : List (DataW H) → Nat
  | [] => 0
  | d :: r => uptoBulk d + uptoBulkAll r
def uptoBulkEntries {H : Type} : List (Lit × DataW H) → Nat
  | [] => 0
  | x :: r => uptoBulkEntry x + uptoBulkEntries r
def uptoBulkEntry {H : Type} : Lit × DataW H → Nat
  | (.string bytes, d) => bytes.length + uptoBulk d + 1
  | (_, d) => uptoBulk d + 1
 end
def uptoSmall : (H : Type) → List (DataW H) → Bool := fun _ ds => decide (uptoBulkAll ds ≤ 1048576)
def OpenSpec.upto (s : _root_.Go.ChangeSpec) : _root_.Go.OpenSpec := { _root_.Go.OpenSpec.ofChange s with cond := some uptoSmall }

/-- 'laws.FnExactPeaksOf', WHERE WHAT IT READS IS OF BULK AT MOST 1048576: true; the input reads as it did. -/
def fnExactPeaksOfUptoRow : OpenClaim := { program := "ytmlkgpoakkgjbaa", sum := "3a9889b86ab8b225ed1cb2eb7b36a416ee2a8404bc25073faa38fcc1a4ae7b2d", func := "loop.example/g01005/laws.FnExactPeaksOf", spec := "fnExactPeaksOf", unfollowed := true, recurses := true, apart := false, narrowed := true }
def FnExactPeaksOfUptoSaid : Prop := fnExactPeaksOfUptoRow.holds Try.pinned (OpenSpec.upto fnExactPeaksOfSpec)

/-- 'laws.FnExactMajorityStep', WHERE WHAT IT READS IS OF BULK AT MOST 1048576: true; the input reads as it did. -/
def fnExactMajorityStepUptoRow : OpenClaim := { program := "ytmlkgpoakkgjbaa", sum := "3a9889b86ab8b225ed1cb2eb7b36a416ee2a8404bc25073faa38fcc1a4ae7b2d", func := "loop.example/g01005/laws.FnExactMajorityStep", spec := "fnExactMajorityStep", unfollowed := true, recurses := true, apart := false, narrowed := true }
def FnExactMajorityStepUptoSaid : Prop := fnExactMajorityStepUptoRow.holds Try.pinned (OpenSpec.upto fnExactMajorityStepSpec)

/-- 'laws.FnExactMajorityRest', WHERE WHAT IT READS IS OF BULK AT MOST 1048576: true; the input reads as it did. -/
def fnExactMajorityRestUptoRow : OpenClaim := { program := "ytmlkgpoakkgjbaa", sum := "3a9889b86ab8b225ed1cb2eb7b36a416ee2a8404bc25073faa38fcc1a4ae7b2d", func := "loop.example/g01005/laws.FnExactMajorityRest", spec := "fnExactMajorityRest", unfollowed := true, recurses := true, apart := false, narrowed := true }
def FnExactMajorityRestUptoSaid : Prop := fnExactMajorityRestUptoRow.holds Try.pinned (OpenSpec.upto fnExactMajorityRestSpec)

/-- 'laws.FnExactCampsOf', WHERE WHAT IT READS IS OF BULK AT MOST 1048576: true; the input reads as it did. -/
def fnExactCampsOfUptoRow : OpenClaim := { program := "ytmlkgpoakkgjbaa", sum := "3a9889b86ab8b225ed1cb2eb7b36a416ee2a8404bc25073faa38fcc1a4ae7b2d", func := "loop.example/g01005/laws.FnExactCampsOf", spec := "fnExactCampsOf", unfollowed := true, recurses := true, apart := false, narrowed := true }
def FnExactCampsOfUptoSaid : Prop := fnExactCampsOfUptoRow.holds Try.pinned (OpenSpec.upto fnExactCampsOfSpec)

/-- 'laws.FnExactBoundedStep', WHERE WHAT IT READS IS OF BULK AT MOST 1048576: true; the input reads as it did. -/
def fnExactBoundedStepUptoRow : OpenClaim := { program := "ytmlkgpoakkgjbaa", sum := "3a9889b86ab8b225ed1cb2eb7b36a416ee2a8404bc25073faa38fcc1a4ae7b2d", func := "loop.example/g01005/laws.FnExactBoundedStep", spec := "fnExactBoundedStep", unfollowed := true, recurses := true, apart := false, narrowed := true }
def FnExactBoundedStepUptoSaid : Prop := fnExactBoundedStepUptoRow.holds Try.pinned (OpenSpec.upto fnExactBoundedStepSpec)

/-- 'laws.FnExactAverageStep', WHERE WHAT IT READS IS OF BULK AT MOST 1048576: true; the input reads as it did. -/
def fnExactAverageStepUptoRow : OpenClaim := { program := "ytmlkgpoakkgjbaa", sum := "3a9889b86ab8b225ed1cb2eb7b36a416ee2a8404bc25073faa38fcc1a4ae7b2d", func := "loop.example/g01005/laws.FnExactAverageStep", spec := "fnExactAverageStep", unfollowed := true, recurses := true, apart := false, narrowed := true }
def FnExactAverageStepUptoSaid : Prop := fnExactAverageStepUptoRow.holds Try.pinned (OpenSpec.upto fnExactAverageStepSpec)

/-- 'laws.FnExactRunRounds', WHERE WHAT IT READS IS OF BULK AT MOST 1048576: true; the input reads as it did. -/
def fnExactRunRoundsUptoRow : OpenClaim := { program := "ytmlkgpoakkgjbaa", sum := "3a9889b86ab8b225ed1cb2eb7b36a416ee2a8404bc25073faa38fcc1a4ae7b2d", func := "loop.example/g01005/laws.FnExactRunRounds", spec := "fnExactRunRounds", unfollowed := true, recurses := true, apart := false, narrowed := true }
def FnExactRunRoundsUptoSaid : Prop := fnExactRunRoundsUptoRow.holds Try.pinned (OpenSpec.upto fnExactRunRoundsSpec)

/-- 'laws.FnExactRoundsToRest', WHERE WHAT IT READS IS OF BULK AT MOST 1048576: true; the input reads as it did. -/
def fnExactRoundsToRestUptoRow : OpenClaim := { program := "ytmlkgpoakkgjbaa", sum := "3a9889b86ab8b225ed1cb2eb7b36a416ee2a8404bc25073faa38fcc1a4ae7b2d", func := "loop.example/g01005/laws.FnExactRoundsToRest", spec := "fnExactRoundsToRest", unfollowed := true, recurses := true, apart := false, narrowed := true }
def FnExactRoundsToRestUptoSaid : Prop := fnExactRoundsToRestUptoRow.holds Try.pinned (OpenSpec.upto fnExactRoundsToRestSpec)

/-- 'laws.FnExactFewestFixed', WHERE WHAT IT READS IS OF BULK AT MOST 1048576: true; the input reads as it did. -/
def fnExactFewestFixedUptoRow : OpenClaim := { program := "ytmlkgpoakkgjbaa", sum := "3a9889b86ab8b225ed1cb2eb7b36a416ee2a8404bc25073faa38fcc1a4ae7b2d", func := "loop.example/g01005/laws.FnExactFewestFixed", spec := "fnExactFewestFixed", unfollowed := true, recurses := true, apart := false, narrowed := true }
def FnExactFewestFixedUptoSaid : Prop := fnExactFewestFixedUptoRow.holds Try.pinned (OpenSpec.upto fnExactFewestFixedSpec)

/-- 'laws.FnExactIsHarmonic', WHERE WHAT IT READS IS OF BULK AT MOST 1048576: true; the input reads as it did. -/
def fnExactIsHarmonicUptoRow : OpenClaim := { program := "ytmlkgpoakkgjbaa", sum := "3a9889b86ab8b225ed1cb2eb7b36a416ee2a8404bc25073faa38fcc1a4ae7b2d", func := "loop.example/g01005/laws.FnExactIsHarmonic", spec := "fnExactIsHarmonic", unfollowed := true, recurses := true, apart := false, narrowed := true }
def FnExactIsHarmonicUptoSaid : Prop := fnExactIsHarmonicUptoRow.holds Try.pinned (OpenSpec.upto fnExactIsHarmonicSpec)

/-- 'laws.FnExactLightestCut', WHERE WHAT IT READS IS OF BULK AT MOST 1048576: true; the input reads as it did. -/
def fnExactLightestCutUptoRow : OpenClaim := { program := "ytmlkgpoakkgjbaa", sum := "3a9889b86ab8b225ed1cb2eb7b36a416ee2a8404bc25073faa38fcc1a4ae7b2d", func := "loop.example/g01005/laws.FnExactLightestCut", spec := "fnExactLightestCut", apart := false, narrowed := true }
def FnExactLightestCutUptoSaid : Prop := fnExactLightestCutUptoRow.holds Try.pinned (OpenSpec.upto fnExactLightestCutSpec)

/-- 'laws.FnLaplacians', WHERE WHAT IT READS IS OF BULK AT MOST 1048576: true; the input reads as it did. -/
def fnLaplaciansUptoRow : OpenClaim := { program := "ytmlkgpoakkgjbaa", sum := "3a9889b86ab8b225ed1cb2eb7b36a416ee2a8404bc25073faa38fcc1a4ae7b2d", func := "loop.example/g01005/laws.FnLaplacians", spec := "fnLaplacians", unfollowed := true, recurses := true, apart := false, narrowed := true }
def FnLaplaciansUptoSaid : Prop := fnLaplaciansUptoRow.holds Try.pinned (OpenSpec.upto fnLaplaciansSpec)

/-- 'laws.FnMajorities', WHERE WHAT IT READS IS OF BULK AT MOST 1048576: true; the input reads as it did. -/
def fnMajoritiesUptoRow : OpenClaim := { program := "ytmlkgpoakkgjbaa", sum := "3a9889b86ab8b225ed1cb2eb7b36a416ee2a8404bc25073faa38fcc1a4ae7b2d", func := "loop.example/g01005/laws.FnMajorities", spec := "fnMajorities", unfollowed := true, recurses := true, apart := false, narrowed := true }
def FnMajoritiesUptoSaid : Prop := fnMajoritiesUptoRow.holds Try.pinned (OpenSpec.upto fnMajoritiesSpec)

/-- 'laws.FnOpinions', WHERE WHAT IT READS IS OF BULK AT MOST 1048576: true; the input reads as it did. -/
def fnOpinionsUptoRow : OpenClaim := { program := "ytmlkgpoakkgjbaa", sum := "3a9889b86ab8b225ed1cb2eb7b36a416ee2a8404bc25073faa38fcc1a4ae7b2d", func := "loop.example/g01005/laws.FnOpinions", spec := "fnOpinions", unfollowed := true, recurses := true, apart := false, narrowed := true }
def FnOpinionsUptoSaid : Prop := fnOpinionsUptoRow.holds Try.pinned (OpenSpec.upto fnOpinionsSpec)

/-- 'laws.FnExactHarmonicModulo', WHERE WHAT IT READS IS OF BULK AT MOST 1048576: true; the input reads as it did. -/
def fnExactHarmonicModuloUptoRow : OpenClaim := { program := "ytmlkgpoakkgjbaa", sum := "3a9889b86ab8b225ed1cb2eb7b36a416ee2a8404bc25073faa38fcc1a4ae7b2d", func := "loop.example/g01005/laws.FnExactHarmonicModulo", spec := "fnExactHarmonicModulo", unfollowed := true, recurses := true, apart := false, narrowed := true }
def FnExactHarmonicModuloUptoSaid : Prop := fnExactHarmonicModuloUptoRow.holds Try.pinned (OpenSpec.upto fnExactHarmonicModuloSpec)

/-- 'laws.FnHarmonic', WHERE WHAT IT READS IS OF BULK AT MOST 1048576: true; the input reads as it did. -/
def fnHarmonicUptoRow : OpenClaim := { program := "ytmlkgpoakkgjbaa", sum := "3a9889b86ab8b225ed1cb2eb7b36a416ee2a8404bc25073faa38fcc1a4ae7b2d", func := "loop.example/g01005/laws.FnHarmonic", spec := "fnHarmonic", unfollowed := true, recurses := true, apart := false, narrowed := true }
def FnHarmonicUptoSaid : Prop := fnHarmonicUptoRow.holds Try.pinned (OpenSpec.upto fnHarmonicSpec)

/-- 'laws.FnExactCountTrees', WHERE WHAT IT READS IS OF BULK AT MOST 1048576: true; the input reads as it did. -/
def fnExactCountTreesUptoRow : OpenClaim := { program := "ytmlkgpoakkgjbaa", sum := "3a9889b86ab8b225ed1cb2eb7b36a416ee2a8404bc25073faa38fcc1a4ae7b2d", func := "loop.example/g01005/laws.FnExactCountTrees", spec := "fnExactCountTrees", unfollowed := true, recurses := true, apart := false, narrowed := true }
def FnExactCountTreesUptoSaid : Prop := fnExactCountTreesUptoRow.holds Try.pinned (OpenSpec.upto fnExactCountTreesSpec)

/-- 'laws.FnExactResistanceOf', WHERE WHAT IT READS IS OF BULK AT MOST 1048576: true; the input reads as it did. -/
def fnExactResistanceOfUptoRow : OpenClaim := { program := "ytmlkgpoakkgjbaa", sum := "3a9889b86ab8b225ed1cb2eb7b36a416ee2a8404bc25073faa38fcc1a4ae7b2d", func := "loop.example/g01005/laws.FnExactResistanceOf", spec := "fnExactResistanceOf", unfollowed := true, recurses := true, apart := false, narrowed := true }
def FnExactResistanceOfUptoSaid : Prop := fnExactResistanceOfUptoRow.holds Try.pinned (OpenSpec.upto fnExactResistanceOfSpec)

/-- 'laws.FnTrees', WHERE WHAT IT READS IS OF BULK AT MOST 1048576: true; the input reads as it did. -/
def fnTreesUptoRow : OpenClaim := { program := "ytmlkgpoakkgjbaa", sum := "3a9889b86ab8b225ed1cb2eb7b36a416ee2a8404bc25073faa38fcc1a4ae7b2d", func := "loop.example/g01005/laws.FnTrees", spec := "fnTrees", unfollowed := true, recurses := true, apart := false, narrowed := true }
def FnTreesUptoSaid : Prop := fnTreesUptoRow.holds Try.pinned (OpenSpec.upto fnTreesSpec)

/-- 'laws.FnExactGreatestFlow', WHERE WHAT IT READS IS OF BULK AT MOST 1048576: true; the input reads as it did. -/
def fnExactGreatestFlowUptoRow : OpenClaim := { program := "ytmlkgpoakkgjbaa", sum := "3a9889b86ab8b225ed1cb2eb7b36a416ee2a8404bc25073faa38fcc1a4ae7b2d", func := "loop.example/g01005/laws.FnExactGreatestFlow", spec := "fnExactGreatestFlow", unfollowed := true, recurses := true, apart := false, narrowed := true }
def FnExactGreatestFlowUptoSaid : Prop := fnExactGreatestFlowUptoRow.holds Try.pinned (OpenSpec.upto fnExactGreatestFlowSpec)

/-- 'laws.FnExactNarrowCut', WHERE WHAT IT READS IS OF BULK AT MOST 1048576: true; the input reads as it did. -/
def fnExactNarrowCutUptoRow : OpenClaim := { program := "ytmlkgpoakkgjbaa", sum := "3a9889b86ab8b225ed1cb2eb7b36a416ee2a8404bc25073faa38fcc1a4ae7b2d", func := "loop.example/g01005/laws.FnExactNarrowCut", spec := "fnExactNarrowCut", unfollowed := true, recurses := true, apart := false, narrowed := true }
def FnExactNarrowCutUptoSaid : Prop := fnExactNarrowCutUptoRow.holds Try.pinned (OpenSpec.upto fnExactNarrowCutSpec)

/-- 'laws.FnExactNarrowArcs', WHERE WHAT IT READS IS OF BULK AT MOST 1048576: true; the input reads as it did. -/
def fnExactNarrowArcsUptoRow : OpenClaim := { program := "ytmlkgpoakkgjbaa", sum := "3a9889b86ab8b225ed1cb2eb7b36a416ee2a8404bc25073faa38fcc1a4ae7b2d", func := "loop.example/g01005/laws.FnExactNarrowArcs", spec := "fnExactNarrowArcs", unfollowed := true, recurses := true, apart := false, narrowed := true }
def FnExactNarrowArcsUptoSaid : Prop := fnExactNarrowArcsUptoRow.holds Try.pinned (OpenSpec.upto fnExactNarrowArcsSpec)

/-- 'laws.FnCuts', WHERE WHAT IT READS IS OF BULK AT MOST 1048576: true; the input reads as it did. -/
def fnCutsUptoRow : OpenClaim := { program := "ytmlkgpoakkgjbaa", sum := "3a9889b86ab8b225ed1cb2eb7b36a416ee2a8404bc25073faa38fcc1a4ae7b2d", func := "loop.example/g01005/laws.FnCuts", spec := "fnCuts", unfollowed := true, recurses := true, apart := false, narrowed := true }
def FnCutsUptoSaid : Prop := fnCutsUptoRow.holds Try.pinned (OpenSpec.upto fnCutsSpec)

end Rows
end Go.Proofs.Ytmlkgpoakkgjbaa
