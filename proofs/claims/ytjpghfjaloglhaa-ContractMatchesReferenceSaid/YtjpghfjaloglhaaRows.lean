/-
  No cell of these rows narrows 'for every input' (looked for: loops, veiled, ifaces, maps, wideKeys, modest, calm, conditions, laid).
  DERIVED. THE GIVEN ROWS OF THIS SEAT. 20 by the template 'for every input the law returns true; each argument reads behind the call as it read before'; 0 by the template 'total and deterministic' (their statements: YtjpghfjaloglhaaTotals.lean).
  GIVEN WITH THE SEED: the statements are not yours to turn. If you find one false, say at which input.
  Laid BY PROGRAM, IN A SANDBOX (cutbox-rows.mjs): the forced cells as the released guide's own fill.sh prints them over the translation 9dced78467873777… (all of the seat's roots in one cut). By AI agents, Wed Nov 11 2026. No macro, syntax, notation, axiom, sorry.
-/
import Derived.Test.YtjpghfjaloglhaaChecked
import GoSem.Claim
import GoSem.ClaimJoined
import GoSem.ClaimMapViews
import Derived.JoinedTies
import Derived.KernelRfl
namespace Go.Proofs.Ytjpghfjaloglhaa
/- THE CELL 'sum', in the pinned program and in every row, IS THE sha256 OF THE DUMP (.gsa) THAT YtjpghfjaloglhaaProg.lean LOADS. Nothing in Lean hashes anything: it is a label: what it is worth is what the hold of that sum in a sandbox is worth. -/
noncomputable def Try.pinned : Pinned := { name := "ytjpghfjaloglhaa", sum := "9dced78467873777c9b8599a8e5523dca3c2eee675ee649bd744763df78bc56e", checked := Try.checked }
namespace Rows
def none {H : Type} : Left H := { results := [], args := [] }

/-- 'formelaw01.QuotMatchesReference': WHATEVER THE INPUT: true; the input reads as it did. -/
def quotMatchesReferenceSpec : ChangeSpec := { name := "quotMatchesReference", fn := fun _ => fun
  | [d1, d2, d3, d4, d5] => { results := [.lit (.bool true)], args := [d1, d2, d3, d4, d5] }
  | _ => none }
def quotMatchesReferenceRow : OpenClaim := { program := "ytjpghfjaloglhaa", sum := "9dced78467873777c9b8599a8e5523dca3c2eee675ee649bd744763df78bc56e", func := "forme/formelaw01.QuotMatchesReference", spec := "quotMatchesReference", unfollowed := true, recurses := true, apart := false }
def QuotMatchesReferenceSaid : Prop := quotMatchesReferenceRow.holds Try.pinned (OpenSpec.ofChange quotMatchesReferenceSpec)

/-- ITS FALSE NEIGHBOUR: 'it returns false'. Refute it at one input. -/
def quotMatchesReferenceWrong : ChangeSpec := { name := "quotMatchesReference", fn := fun _ => fun
  | [d1, d2, d3, d4, d5] => { results := [.lit (.bool false)], args := [d1, d2, d3, d4, d5] }
  | _ => none }
def QuotMatchesReferenceWrongFalsely : Prop := quotMatchesReferenceRow.holds Try.pinned (OpenSpec.ofChange quotMatchesReferenceWrong)

/-- 'formelaw01.QuotFloors': WHATEVER THE INPUT: true; the input reads as it did. -/
def quotFloorsSpec : ChangeSpec := { name := "quotFloors", fn := fun _ => fun
  | [d1, d2] => { results := [.lit (.bool true)], args := [d1, d2] }
  | _ => none }
def quotFloorsRow : OpenClaim := { program := "ytjpghfjaloglhaa", sum := "9dced78467873777c9b8599a8e5523dca3c2eee675ee649bd744763df78bc56e", func := "forme/formelaw01.QuotFloors", spec := "quotFloors", unfollowed := true, recurses := true, apart := false }
def QuotFloorsSaid : Prop := quotFloorsRow.holds Try.pinned (OpenSpec.ofChange quotFloorsSpec)

/-- ITS FALSE NEIGHBOUR: 'it returns false'. Refute it at one input. -/
def quotFloorsWrong : ChangeSpec := { name := "quotFloors", fn := fun _ => fun
  | [d1, d2] => { results := [.lit (.bool false)], args := [d1, d2] }
  | _ => none }
def QuotFloorsWrongFalsely : Prop := quotFloorsRow.holds Try.pinned (OpenSpec.ofChange quotFloorsWrong)

/-- 'formelaw01.QuotFits': WHATEVER THE INPUT: true; the input reads as it did. -/
def quotFitsSpec : ChangeSpec := { name := "quotFits", fn := fun _ => fun
  | [d1, d2, d3, d4] => { results := [.lit (.bool true)], args := [d1, d2, d3, d4] }
  | _ => none }
def quotFitsRow : OpenClaim := { program := "ytjpghfjaloglhaa", sum := "9dced78467873777c9b8599a8e5523dca3c2eee675ee649bd744763df78bc56e", func := "forme/formelaw01.QuotFits", spec := "quotFits", unfollowed := true, recurses := true, apart := false }
def QuotFitsSaid : Prop := quotFitsRow.holds Try.pinned (OpenSpec.ofChange quotFitsSpec)

/-- ITS FALSE NEIGHBOUR: 'it returns false'. Refute it at one input. -/
def quotFitsWrong : ChangeSpec := { name := "quotFits", fn := fun _ => fun
  | [d1, d2, d3, d4] => { results := [.lit (.bool false)], args := [d1, d2, d3, d4] }
  | _ => none }
def QuotFitsWrongFalsely : Prop := quotFitsRow.holds Try.pinned (OpenSpec.ofChange quotFitsWrong)

/-- 'formelaw01.QuotBeginnings': WHATEVER THE INPUT: true; the input reads as it did. -/
def quotBeginningsSpec : ChangeSpec := { name := "quotBeginnings", fn := fun _ => fun
  | [d1, d2, d3] => { results := [.lit (.bool true)], args := [d1, d2, d3] }
  | _ => none }
def quotBeginningsRow : OpenClaim := { program := "ytjpghfjaloglhaa", sum := "9dced78467873777c9b8599a8e5523dca3c2eee675ee649bd744763df78bc56e", func := "forme/formelaw01.QuotBeginnings", spec := "quotBeginnings", unfollowed := true, recurses := true, apart := false }
def QuotBeginningsSaid : Prop := quotBeginningsRow.holds Try.pinned (OpenSpec.ofChange quotBeginningsSpec)

/-- ITS FALSE NEIGHBOUR: 'it returns false'. Refute it at one input. -/
def quotBeginningsWrong : ChangeSpec := { name := "quotBeginnings", fn := fun _ => fun
  | [d1, d2, d3] => { results := [.lit (.bool false)], args := [d1, d2, d3] }
  | _ => none }
def QuotBeginningsWrongFalsely : Prop := quotBeginningsRow.holds Try.pinned (OpenSpec.ofChange quotBeginningsWrong)

/-- 'formelaw01.QuotMoves': WHATEVER THE INPUT: true; the input reads as it did. -/
def quotMovesSpec : ChangeSpec := { name := "quotMoves", fn := fun _ => fun
  | [d1, d2] => { results := [.lit (.bool true)], args := [d1, d2] }
  | _ => none }
def quotMovesRow : OpenClaim := { program := "ytjpghfjaloglhaa", sum := "9dced78467873777c9b8599a8e5523dca3c2eee675ee649bd744763df78bc56e", func := "forme/formelaw01.QuotMoves", spec := "quotMoves", unfollowed := true, recurses := true, apart := false }
def QuotMovesSaid : Prop := quotMovesRow.holds Try.pinned (OpenSpec.ofChange quotMovesSpec)

/-- ITS FALSE NEIGHBOUR: 'it returns false'. Refute it at one input. -/
def quotMovesWrong : ChangeSpec := { name := "quotMoves", fn := fun _ => fun
  | [d1, d2] => { results := [.lit (.bool false)], args := [d1, d2] }
  | _ => none }
def QuotMovesWrongFalsely : Prop := quotMovesRow.holds Try.pinned (OpenSpec.ofChange quotMovesWrong)

/-- 'formelaw01.QuotBelow': WHATEVER THE INPUT: true; the input reads as it did. -/
def quotBelowSpec : ChangeSpec := { name := "quotBelow", fn := fun _ => fun
  | [d1, d2, d3, d4] => { results := [.lit (.bool true)], args := [d1, d2, d3, d4] }
  | _ => none }
def quotBelowRow : OpenClaim := { program := "ytjpghfjaloglhaa", sum := "9dced78467873777c9b8599a8e5523dca3c2eee675ee649bd744763df78bc56e", func := "forme/formelaw01.QuotBelow", spec := "quotBelow", unfollowed := true, recurses := true, apart := false }
def QuotBelowSaid : Prop := quotBelowRow.holds Try.pinned (OpenSpec.ofChange quotBelowSpec)

/-- ITS FALSE NEIGHBOUR: 'it returns false'. Refute it at one input. -/
def quotBelowWrong : ChangeSpec := { name := "quotBelow", fn := fun _ => fun
  | [d1, d2, d3, d4] => { results := [.lit (.bool false)], args := [d1, d2, d3, d4] }
  | _ => none }
def QuotBelowWrongFalsely : Prop := quotBelowRow.holds Try.pinned (OpenSpec.ofChange quotBelowWrong)

/-- 'formelaw02.CurveValues': WHATEVER THE INPUT: true; the input reads as it did. -/
def curveValuesSpec : ChangeSpec := { name := "curveValues", fn := fun _ => fun
  | [d1, d2] => { results := [.lit (.bool true)], args := [d1, d2] }
  | _ => none }
def curveValuesRow : OpenClaim := { program := "ytjpghfjaloglhaa", sum := "9dced78467873777c9b8599a8e5523dca3c2eee675ee649bd744763df78bc56e", func := "forme/formelaw02.CurveValues", spec := "curveValues", unfollowed := true, recurses := true, apart := false }
def CurveValuesSaid : Prop := curveValuesRow.holds Try.pinned (OpenSpec.ofChange curveValuesSpec)

/-- ITS FALSE NEIGHBOUR: 'it returns false'. Refute it at one input. -/
def curveValuesWrong : ChangeSpec := { name := "curveValues", fn := fun _ => fun
  | [d1, d2] => { results := [.lit (.bool false)], args := [d1, d2] }
  | _ => none }
def CurveValuesWrongFalsely : Prop := curveValuesRow.holds Try.pinned (OpenSpec.ofChange curveValuesWrong)

/-- 'formelaw02.CurveOne': WHATEVER THE INPUT: true; the input reads as it did. -/
def curveOneSpec : ChangeSpec := { name := "curveOne", fn := fun _ => fun
  | [d] => { results := [.lit (.bool true)], args := [d] }
  | _ => none }
def curveOneRow : OpenClaim := { program := "ytjpghfjaloglhaa", sum := "9dced78467873777c9b8599a8e5523dca3c2eee675ee649bd744763df78bc56e", func := "forme/formelaw02.CurveOne", spec := "curveOne", unfollowed := true, recurses := true, apart := false }
def CurveOneSaid : Prop := curveOneRow.holds Try.pinned (OpenSpec.ofChange curveOneSpec)

/-- ITS FALSE NEIGHBOUR: 'it returns false'. Refute it at one input. -/
def curveOneWrong : ChangeSpec := { name := "curveOne", fn := fun _ => fun
  | [d] => { results := [.lit (.bool false)], args := [d] }
  | _ => none }
def CurveOneWrongFalsely : Prop := curveOneRow.holds Try.pinned (OpenSpec.ofChange curveOneWrong)

/-- 'formelaw02.CurveLong': WHATEVER THE INPUT: true; the input reads as it did. -/
def curveLongSpec : ChangeSpec := { name := "curveLong", fn := fun _ => fun
  | [d1, d2] => { results := [.lit (.bool true)], args := [d1, d2] }
  | _ => none }
def curveLongRow : OpenClaim := { program := "ytjpghfjaloglhaa", sum := "9dced78467873777c9b8599a8e5523dca3c2eee675ee649bd744763df78bc56e", func := "forme/formelaw02.CurveLong", spec := "curveLong", unfollowed := true, recurses := true, apart := false }
def CurveLongSaid : Prop := curveLongRow.holds Try.pinned (OpenSpec.ofChange curveLongSpec)

/-- ITS FALSE NEIGHBOUR: 'it returns false'. Refute it at one input. -/
def curveLongWrong : ChangeSpec := { name := "curveLong", fn := fun _ => fun
  | [d1, d2] => { results := [.lit (.bool false)], args := [d1, d2] }
  | _ => none }
def CurveLongWrongFalsely : Prop := curveLongRow.holds Try.pinned (OpenSpec.ofChange curveLongWrong)

/-- 'formelaw02.CurveMoves': WHATEVER THE INPUT: true; the input reads as it did. -/
def curveMovesSpec : ChangeSpec := { name := "curveMoves", fn := fun _ => fun
  | [d1, d2, d3] => { results := [.lit (.bool true)], args := [d1, d2, d3] }
  | _ => none }
def curveMovesRow : OpenClaim := { program := "ytjpghfjaloglhaa", sum := "9dced78467873777c9b8599a8e5523dca3c2eee675ee649bd744763df78bc56e", func := "forme/formelaw02.CurveMoves", spec := "curveMoves", unfollowed := true, recurses := true, apart := false }
def CurveMovesSaid : Prop := curveMovesRow.holds Try.pinned (OpenSpec.ofChange curveMovesSpec)

/-- ITS FALSE NEIGHBOUR: 'it returns false'. Refute it at one input. -/
def curveMovesWrong : ChangeSpec := { name := "curveMoves", fn := fun _ => fun
  | [d1, d2, d3] => { results := [.lit (.bool false)], args := [d1, d2, d3] }
  | _ => none }
def CurveMovesWrongFalsely : Prop := curveMovesRow.holds Try.pinned (OpenSpec.ofChange curveMovesWrong)

/-- 'formelaw02.CurveBegins': WHATEVER THE INPUT: true; the input reads as it did. -/
def curveBeginsSpec : ChangeSpec := { name := "curveBegins", fn := fun _ => fun
  | [d1, d2, d3] => { results := [.lit (.bool true)], args := [d1, d2, d3] }
  | _ => none }
def curveBeginsRow : OpenClaim := { program := "ytjpghfjaloglhaa", sum := "9dced78467873777c9b8599a8e5523dca3c2eee675ee649bd744763df78bc56e", func := "forme/formelaw02.CurveBegins", spec := "curveBegins", unfollowed := true, recurses := true, apart := false }
def CurveBeginsSaid : Prop := curveBeginsRow.holds Try.pinned (OpenSpec.ofChange curveBeginsSpec)

/-- ITS FALSE NEIGHBOUR: 'it returns false'. Refute it at one input. -/
def curveBeginsWrong : ChangeSpec := { name := "curveBegins", fn := fun _ => fun
  | [d1, d2, d3] => { results := [.lit (.bool false)], args := [d1, d2, d3] }
  | _ => none }
def CurveBeginsWrongFalsely : Prop := curveBeginsRow.holds Try.pinned (OpenSpec.ofChange curveBeginsWrong)

/-- 'formelaw02.CurveMatchesReference': WHATEVER THE INPUT: true; the input reads as it did. -/
def curveMatchesReferenceSpec : ChangeSpec := { name := "curveMatchesReference", fn := fun _ => fun
  | [d1, d2, d3, d4, d5] => { results := [.lit (.bool true)], args := [d1, d2, d3, d4, d5] }
  | _ => none }
def curveMatchesReferenceRow : OpenClaim := { program := "ytjpghfjaloglhaa", sum := "9dced78467873777c9b8599a8e5523dca3c2eee675ee649bd744763df78bc56e", func := "forme/formelaw02.CurveMatchesReference", spec := "curveMatchesReference", unfollowed := true, recurses := true, apart := false }
def CurveMatchesReferenceSaid : Prop := curveMatchesReferenceRow.holds Try.pinned (OpenSpec.ofChange curveMatchesReferenceSpec)

/-- ITS FALSE NEIGHBOUR: 'it returns false'. Refute it at one input. -/
def curveMatchesReferenceWrong : ChangeSpec := { name := "curveMatchesReference", fn := fun _ => fun
  | [d1, d2, d3, d4, d5] => { results := [.lit (.bool false)], args := [d1, d2, d3, d4, d5] }
  | _ => none }
def CurveMatchesReferenceWrongFalsely : Prop := curveMatchesReferenceRow.holds Try.pinned (OpenSpec.ofChange curveMatchesReferenceWrong)

/-- 'formelaw02.CurveSums': WHATEVER THE INPUT: true; the input reads as it did. -/
def curveSumsSpec : ChangeSpec := { name := "curveSums", fn := fun _ => fun
  | [d1, d2, d3] => { results := [.lit (.bool true)], args := [d1, d2, d3] }
  | _ => none }
def curveSumsRow : OpenClaim := { program := "ytjpghfjaloglhaa", sum := "9dced78467873777c9b8599a8e5523dca3c2eee675ee649bd744763df78bc56e", func := "forme/formelaw02.CurveSums", spec := "curveSums", unfollowed := true, recurses := true, apart := false }
def CurveSumsSaid : Prop := curveSumsRow.holds Try.pinned (OpenSpec.ofChange curveSumsSpec)

/-- ITS FALSE NEIGHBOUR: 'it returns false'. Refute it at one input. -/
def curveSumsWrong : ChangeSpec := { name := "curveSums", fn := fun _ => fun
  | [d1, d2, d3] => { results := [.lit (.bool false)], args := [d1, d2, d3] }
  | _ => none }
def CurveSumsWrongFalsely : Prop := curveSumsRow.holds Try.pinned (OpenSpec.ofChange curveSumsWrong)

/-- 'formelaw38.ContractMatchesReference': WHATEVER THE INPUT: true; the input reads as it did. -/
def contractMatchesReferenceSpec : ChangeSpec := { name := "contractMatchesReference", fn := fun _ => fun
  | [d1, d2, d3, d4] => { results := [.lit (.bool true)], args := [d1, d2, d3, d4] }
  | _ => none }
def contractMatchesReferenceRow : OpenClaim := { program := "ytjpghfjaloglhaa", sum := "9dced78467873777c9b8599a8e5523dca3c2eee675ee649bd744763df78bc56e", func := "forme/formelaw38.ContractMatchesReference", spec := "contractMatchesReference", unfollowed := true, recurses := true, apart := false }
def ContractMatchesReferenceSaid : Prop := contractMatchesReferenceRow.holds Try.pinned (OpenSpec.ofChange contractMatchesReferenceSpec)

/-- ITS FALSE NEIGHBOUR: 'it returns false'. Refute it at one input. -/
def contractMatchesReferenceWrong : ChangeSpec := { name := "contractMatchesReference", fn := fun _ => fun
  | [d1, d2, d3, d4] => { results := [.lit (.bool false)], args := [d1, d2, d3, d4] }
  | _ => none }
def ContractMatchesReferenceWrongFalsely : Prop := contractMatchesReferenceRow.holds Try.pinned (OpenSpec.ofChange contractMatchesReferenceWrong)

/-- 'formelaw38.ContractHeights': WHATEVER THE INPUT: true; the input reads as it did. -/
def contractHeightsSpec : ChangeSpec := { name := "contractHeights", fn := fun _ => fun
  | [d1, d2, d3] => { results := [.lit (.bool true)], args := [d1, d2, d3] }
  | _ => none }
def contractHeightsRow : OpenClaim := { program := "ytjpghfjaloglhaa", sum := "9dced78467873777c9b8599a8e5523dca3c2eee675ee649bd744763df78bc56e", func := "forme/formelaw38.ContractHeights", spec := "contractHeights", unfollowed := true, recurses := true, apart := false }
def ContractHeightsSaid : Prop := contractHeightsRow.holds Try.pinned (OpenSpec.ofChange contractHeightsSpec)

/-- ITS FALSE NEIGHBOUR: 'it returns false'. Refute it at one input. -/
def contractHeightsWrong : ChangeSpec := { name := "contractHeights", fn := fun _ => fun
  | [d1, d2, d3] => { results := [.lit (.bool false)], args := [d1, d2, d3] }
  | _ => none }
def ContractHeightsWrongFalsely : Prop := contractHeightsRow.holds Try.pinned (OpenSpec.ofChange contractHeightsWrong)

/-- 'formelaw38.ContractHonest': WHATEVER THE INPUT: true; the input reads as it did. -/
def contractHonestSpec : ChangeSpec := { name := "contractHonest", fn := fun _ => fun
  | [d1, d2, d3] => { results := [.lit (.bool true)], args := [d1, d2, d3] }
  | _ => none }
def contractHonestRow : OpenClaim := { program := "ytjpghfjaloglhaa", sum := "9dced78467873777c9b8599a8e5523dca3c2eee675ee649bd744763df78bc56e", func := "forme/formelaw38.ContractHonest", spec := "contractHonest", unfollowed := true, recurses := true, apart := false }
def ContractHonestSaid : Prop := contractHonestRow.holds Try.pinned (OpenSpec.ofChange contractHonestSpec)

/-- ITS FALSE NEIGHBOUR: 'it returns false'. Refute it at one input. -/
def contractHonestWrong : ChangeSpec := { name := "contractHonest", fn := fun _ => fun
  | [d1, d2, d3] => { results := [.lit (.bool false)], args := [d1, d2, d3] }
  | _ => none }
def ContractHonestWrongFalsely : Prop := contractHonestRow.holds Try.pinned (OpenSpec.ofChange contractHonestWrong)

/-- 'formelaw38.ContractCharges': WHATEVER THE INPUT: true; the input reads as it did. -/
def contractChargesSpec : ChangeSpec := { name := "contractCharges", fn := fun _ => fun
  | [d1, d2] => { results := [.lit (.bool true)], args := [d1, d2] }
  | _ => none }
def contractChargesRow : OpenClaim := { program := "ytjpghfjaloglhaa", sum := "9dced78467873777c9b8599a8e5523dca3c2eee675ee649bd744763df78bc56e", func := "forme/formelaw38.ContractCharges", spec := "contractCharges", unfollowed := true, recurses := true, apart := false }
def ContractChargesSaid : Prop := contractChargesRow.holds Try.pinned (OpenSpec.ofChange contractChargesSpec)

/-- ITS FALSE NEIGHBOUR: 'it returns false'. Refute it at one input. -/
def contractChargesWrong : ChangeSpec := { name := "contractCharges", fn := fun _ => fun
  | [d1, d2] => { results := [.lit (.bool false)], args := [d1, d2] }
  | _ => none }
def ContractChargesWrongFalsely : Prop := contractChargesRow.holds Try.pinned (OpenSpec.ofChange contractChargesWrong)

/-- 'formelaw38.ContractFrozen': WHATEVER THE INPUT: true; the input reads as it did. -/
def contractFrozenSpec : ChangeSpec := { name := "contractFrozen", fn := fun _ => fun
  | [d1, d2, d3] => { results := [.lit (.bool true)], args := [d1, d2, d3] }
  | _ => none }
def contractFrozenRow : OpenClaim := { program := "ytjpghfjaloglhaa", sum := "9dced78467873777c9b8599a8e5523dca3c2eee675ee649bd744763df78bc56e", func := "forme/formelaw38.ContractFrozen", spec := "contractFrozen", unfollowed := true, recurses := true, apart := false }
def ContractFrozenSaid : Prop := contractFrozenRow.holds Try.pinned (OpenSpec.ofChange contractFrozenSpec)

/-- ITS FALSE NEIGHBOUR: 'it returns false'. Refute it at one input. -/
def contractFrozenWrong : ChangeSpec := { name := "contractFrozen", fn := fun _ => fun
  | [d1, d2, d3] => { results := [.lit (.bool false)], args := [d1, d2, d3] }
  | _ => none }
def ContractFrozenWrongFalsely : Prop := contractFrozenRow.holds Try.pinned (OpenSpec.ofChange contractFrozenWrong)

/-- 'formelaw38.ContractWidths': WHATEVER THE INPUT: true; the input reads as it did. -/
def contractWidthsSpec : ChangeSpec := { name := "contractWidths", fn := fun _ => fun
  | [d1, d2] => { results := [.lit (.bool true)], args := [d1, d2] }
  | _ => none }
def contractWidthsRow : OpenClaim := { program := "ytjpghfjaloglhaa", sum := "9dced78467873777c9b8599a8e5523dca3c2eee675ee649bd744763df78bc56e", func := "forme/formelaw38.ContractWidths", spec := "contractWidths", unfollowed := true, recurses := true, apart := false }
def ContractWidthsSaid : Prop := contractWidthsRow.holds Try.pinned (OpenSpec.ofChange contractWidthsSpec)

/-- ITS FALSE NEIGHBOUR: 'it returns false'. Refute it at one input. -/
def contractWidthsWrong : ChangeSpec := { name := "contractWidths", fn := fun _ => fun
  | [d1, d2] => { results := [.lit (.bool false)], args := [d1, d2] }
  | _ => none }
def ContractWidthsWrongFalsely : Prop := contractWidthsRow.holds Try.pinned (OpenSpec.ofChange contractWidthsWrong)

/-- 'formelaw38.ContractCourses': WHATEVER THE INPUT: true; the input reads as it did. -/
def contractCoursesSpec : ChangeSpec := { name := "contractCourses", fn := fun _ => fun
  | [d1, d2] => { results := [.lit (.bool true)], args := [d1, d2] }
  | _ => none }
def contractCoursesRow : OpenClaim := { program := "ytjpghfjaloglhaa", sum := "9dced78467873777c9b8599a8e5523dca3c2eee675ee649bd744763df78bc56e", func := "forme/formelaw38.ContractCourses", spec := "contractCourses", unfollowed := true, recurses := true, apart := false }
def ContractCoursesSaid : Prop := contractCoursesRow.holds Try.pinned (OpenSpec.ofChange contractCoursesSpec)

/-- ITS FALSE NEIGHBOUR: 'it returns false'. Refute it at one input. -/
def contractCoursesWrong : ChangeSpec := { name := "contractCourses", fn := fun _ => fun
  | [d1, d2] => { results := [.lit (.bool false)], args := [d1, d2] }
  | _ => none }
def ContractCoursesWrongFalsely : Prop := contractCoursesRow.holds Try.pinned (OpenSpec.ofChange contractCoursesWrong)

/- THE SECOND FORM. 'bulk': how many values and letters a reading holds, each counted each time it is reached (what is shared counts as often as it is met; a slice's spare places count too). A statement '..UptoSaid' is the law's where the arguments, and the package variables that the reading takes, are together of bulk at most 1048576: NARROWER than '..Said'. Prove '..Said' where nothing that the law and all that it calls make is longer than what came in: it says more and counts as full. Else prove '..UptoSaid'. A law counts once. -/
mutual
def uptoBulk {H : Type} : DataW H → Nat
  | .lit (.string bytes) => bytes.length + 1
  | .lit _ => 1
  | .nil => 1
  | .ptr d => uptoBulk d + 1
  | .slice elems spare => uptoBulkAll elems + uptoBulkAll spare + 1
  | .agg parts => uptoBulkAll parts + 1
  | .iface _ d => uptoBulk d + 1
  | .map entries => uptoBulkEntries entries + 1
  | .held _ => 1
def uptoBulkAll {H : Type} : List (DataW H) → Nat
  | [] => 0
  | d :: r => uptoBulk d + uptoBulkAll r
def uptoBulkEntries {H : Type} : List (Lit × DataW H) → Nat
  | [] => 0
  | x :: r => uptoBulkEntry x + uptoBulkEntries r
def uptoBulkEntry {H : Type} : Lit × DataW H → Nat
  | (.string bytes, d) => bytes.length + uptoBulk d + 1
  | (_, d) => uptoBulk d + 1
 end
def uptoSmall : (H : Type) → List (DataW H) → Bool := fun _ ds => decide (uptoBulkAll ds ≤ 1048576)
def OpenSpec.upto (s : _root_.Go.ChangeSpec) : _root_.Go.OpenSpec := { _root_.Go.OpenSpec.ofChange s with cond := some uptoSmall }

/-- 'formelaw01.QuotMatchesReference', WHERE WHAT IT READS IS OF BULK AT MOST 1048576: true; the input reads as it did. -/
def quotMatchesReferenceUptoRow : OpenClaim := { program := "ytjpghfjaloglhaa", sum := "9dced78467873777c9b8599a8e5523dca3c2eee675ee649bd744763df78bc56e", func := "forme/formelaw01.QuotMatchesReference", spec := "quotMatchesReference", unfollowed := true, recurses := true, apart := false, narrowed := true }
def QuotMatchesReferenceUptoSaid : Prop := quotMatchesReferenceUptoRow.holds Try.pinned (OpenSpec.upto quotMatchesReferenceSpec)

/-- 'formelaw01.QuotFloors', WHERE WHAT IT READS IS OF BULK AT MOST 1048576: true; the input reads as it did. -/
def quotFloorsUptoRow : OpenClaim := { program := "ytjpghfjaloglhaa", sum := "9dced78467873777c9b8599a8e5523dca3c2eee675ee649bd744763df78bc56e", func := "forme/formelaw01.QuotFloors", spec := "quotFloors", unfollowed := true, recurses := true, apart := false, narrowed := true }
def QuotFloorsUptoSaid : Prop := quotFloorsUptoRow.holds Try.pinned (OpenSpec.upto quotFloorsSpec)

/-- 'formelaw01.QuotFits', WHERE WHAT IT READS IS OF BULK AT MOST 1048576: true; the input reads as it did. -/
def quotFitsUptoRow : OpenClaim := { program := "ytjpghfjaloglhaa", sum := "9dced78467873777c9b8599a8e5523dca3c2eee675ee649bd744763df78bc56e", func := "forme/formelaw01.QuotFits", spec := "quotFits", unfollowed := true, recurses := true, apart := false, narrowed := true }
def QuotFitsUptoSaid : Prop := quotFitsUptoRow.holds Try.pinned (OpenSpec.upto quotFitsSpec)

/-- 'formelaw01.QuotBeginnings', WHERE WHAT IT READS IS OF BULK AT MOST 1048576: true; the input reads as it did. -/
def quotBeginningsUptoRow : OpenClaim := { program := "ytjpghfjaloglhaa", sum := "9dced78467873777c9b8599a8e5523dca3c2eee675ee649bd744763df78bc56e", func := "forme/formelaw01.QuotBeginnings", spec := "quotBeginnings", unfollowed := true, recurses := true, apart := false, narrowed := true }
def QuotBeginningsUptoSaid : Prop := quotBeginningsUptoRow.holds Try.pinned (OpenSpec.upto quotBeginningsSpec)

/-- 'formelaw01.QuotMoves', WHERE WHAT IT READS IS OF BULK AT MOST 1048576: true; the input reads as it did. -/
def quotMovesUptoRow : OpenClaim := { program := "ytjpghfjaloglhaa", sum := "9dced78467873777c9b8599a8e5523dca3c2eee675ee649bd744763df78bc56e", func := "forme/formelaw01.QuotMoves", spec := "quotMoves", unfollowed := true, recurses := true, apart := false, narrowed := true }
def QuotMovesUptoSaid : Prop := quotMovesUptoRow.holds Try.pinned (OpenSpec.upto quotMovesSpec)

/-- 'formelaw01.QuotBelow', WHERE WHAT IT READS IS OF BULK AT MOST 1048576: true; the input reads as it did. -/
def quotBelowUptoRow : OpenClaim := { program := "ytjpghfjaloglhaa", sum := "9dced78467873777c9b8599a8e5523dca3c2eee675ee649bd744763df78bc56e", func := "forme/formelaw01.QuotBelow", spec := "quotBelow", unfollowed := true, recurses := true, apart := false, narrowed := true }
def QuotBelowUptoSaid : Prop := quotBelowUptoRow.holds Try.pinned (OpenSpec.upto quotBelowSpec)

/-- 'formelaw02.CurveValues', WHERE WHAT IT READS IS OF BULK AT MOST 1048576: true; the input reads as it did. -/
def curveValuesUptoRow : OpenClaim := { program := "ytjpghfjaloglhaa", sum := "9dced78467873777c9b8599a8e5523dca3c2eee675ee649bd744763df78bc56e", func := "forme/formelaw02.CurveValues", spec := "curveValues", unfollowed := true, recurses := true, apart := false, narrowed := true }
def CurveValuesUptoSaid : Prop := curveValuesUptoRow.holds Try.pinned (OpenSpec.upto curveValuesSpec)

/-- 'formelaw02.CurveOne', WHERE WHAT IT READS IS OF BULK AT MOST 1048576: true; the input reads as it did. -/
def curveOneUptoRow : OpenClaim := { program := "ytjpghfjaloglhaa", sum := "9dced78467873777c9b8599a8e5523dca3c2eee675ee649bd744763df78bc56e", func := "forme/formelaw02.CurveOne", spec := "curveOne", unfollowed := true, recurses := true, apart := false, narrowed := true }
def CurveOneUptoSaid : Prop := curveOneUptoRow.holds Try.pinned (OpenSpec.upto curveOneSpec)

/-- 'formelaw02.CurveLong', WHERE WHAT IT READS IS OF BULK AT MOST 1048576: true; the input reads as it did. -/
def curveLongUptoRow : OpenClaim := { program := "ytjpghfjaloglhaa", sum := "9dced78467873777c9b8599a8e5523dca3c2eee675ee649bd744763df78bc56e", func := "forme/formelaw02.CurveLong", spec := "curveLong", unfollowed := true, recurses := true, apart := false, narrowed := true }
def CurveLongUptoSaid : Prop := curveLongUptoRow.holds Try.pinned (OpenSpec.upto curveLongSpec)

/-- 'formelaw02.CurveMoves', WHERE WHAT IT READS IS OF BULK AT MOST 1048576: true; the input reads as it did. -/
def curveMovesUptoRow : OpenClaim := { program := "ytjpghfjaloglhaa", sum := "9dced78467873777c9b8599a8e5523dca3c2eee675ee649bd744763df78bc56e", func := "forme/formelaw02.CurveMoves", spec := "curveMoves", unfollowed := true, recurses := true, apart := false, narrowed := true }
def CurveMovesUptoSaid : Prop := curveMovesUptoRow.holds Try.pinned (OpenSpec.upto curveMovesSpec)

/-- 'formelaw02.CurveBegins', WHERE WHAT IT READS IS OF BULK AT MOST 1048576: true; the input reads as it did. -/
def curveBeginsUptoRow : OpenClaim := { program := "ytjpghfjaloglhaa", sum := "9dced78467873777c9b8599a8e5523dca3c2eee675ee649bd744763df78bc56e", func := "forme/formelaw02.CurveBegins", spec := "curveBegins", unfollowed := true, recurses := true, apart := false, narrowed := true }
def CurveBeginsUptoSaid : Prop := curveBeginsUptoRow.holds Try.pinned (OpenSpec.upto curveBeginsSpec)

/-- 'formelaw02.CurveMatchesReference', WHERE WHAT IT READS IS OF BULK AT MOST 1048576: true; the input reads as it did. -/
def curveMatchesReferenceUptoRow : OpenClaim := { program := "ytjpghfjaloglhaa", sum := "9dced78467873777c9b8599a8e5523dca3c2eee675ee649bd744763df78bc56e", func := "forme/formelaw02.CurveMatchesReference", spec := "curveMatchesReference", unfollowed := true, recurses := true, apart := false, narrowed := true }
def CurveMatchesReferenceUptoSaid : Prop := curveMatchesReferenceUptoRow.holds Try.pinned (OpenSpec.upto curveMatchesReferenceSpec)

/-- 'formelaw02.CurveSums', WHERE WHAT IT READS IS OF BULK AT MOST 1048576: true; the input reads as it did. -/
def curveSumsUptoRow : OpenClaim := { program := "ytjpghfjaloglhaa", sum := "9dced78467873777c9b8599a8e5523dca3c2eee675ee649bd744763df78bc56e", func := "forme/formelaw02.CurveSums", spec := "curveSums", unfollowed := true, recurses := true, apart := false, narrowed := true }
def CurveSumsUptoSaid : Prop := curveSumsUptoRow.holds Try.pinned (OpenSpec.upto curveSumsSpec)

/-- 'formelaw38.ContractMatchesReference', WHERE WHAT IT READS IS OF BULK AT MOST 1048576: true; the input reads as it did. -/
def contractMatchesReferenceUptoRow : OpenClaim := { program := "ytjpghfjaloglhaa", sum := "9dced78467873777c9b8599a8e5523dca3c2eee675ee649bd744763df78bc56e", func := "forme/formelaw38.ContractMatchesReference", spec := "contractMatchesReference", unfollowed := true, recurses := true, apart := false, narrowed := true }
def ContractMatchesReferenceUptoSaid : Prop := contractMatchesReferenceUptoRow.holds Try.pinned (OpenSpec.upto contractMatchesReferenceSpec)

/-- 'formelaw38.ContractHeights', WHERE WHAT IT READS IS OF BULK AT MOST 1048576: true; the input reads as it did. -/
def contractHeightsUptoRow : OpenClaim := { program := "ytjpghfjaloglhaa", sum := "9dced78467873777c9b8599a8e5523dca3c2eee675ee649bd744763df78bc56e", func := "forme/formelaw38.ContractHeights", spec := "contractHeights", unfollowed := true, recurses := true, apart := false, narrowed := true }
def ContractHeightsUptoSaid : Prop := contractHeightsUptoRow.holds Try.pinned (OpenSpec.upto contractHeightsSpec)

/-- 'formelaw38.ContractHonest', WHERE WHAT IT READS IS OF BULK AT MOST 1048576: true; the input reads as it did. -/
def contractHonestUptoRow : OpenClaim := { program := "ytjpghfjaloglhaa", sum := "9dced78467873777c9b8599a8e5523dca3c2eee675ee649bd744763df78bc56e", func := "forme/formelaw38.ContractHonest", spec := "contractHonest", unfollowed := true, recurses := true, apart := false, narrowed := true }
def ContractHonestUptoSaid : Prop := contractHonestUptoRow.holds Try.pinned (OpenSpec.upto contractHonestSpec)

/-- 'formelaw38.ContractCharges', WHERE WHAT IT READS IS OF BULK AT MOST 1048576: true; the input reads as it did. -/
def contractChargesUptoRow : OpenClaim := { program := "ytjpghfjaloglhaa", sum := "9dced78467873777c9b8599a8e5523dca3c2eee675ee649bd744763df78bc56e", func := "forme/formelaw38.ContractCharges", spec := "contractCharges", unfollowed := true, recurses := true, apart := false, narrowed := true }
def ContractChargesUptoSaid : Prop := contractChargesUptoRow.holds Try.pinned (OpenSpec.upto contractChargesSpec)

/-- 'formelaw38.ContractFrozen', WHERE WHAT IT READS IS OF BULK AT MOST 1048576: true; the input reads as it did. -/
def contractFrozenUptoRow : OpenClaim := { program := "ytjpghfjaloglhaa", sum := "9dced78467873777c9b8599a8e5523dca3c2eee675ee649bd744763df78bc56e", func := "forme/formelaw38.ContractFrozen", spec := "contractFrozen", unfollowed := true, recurses := true, apart := false, narrowed := true }
def ContractFrozenUptoSaid : Prop := contractFrozenUptoRow.holds Try.pinned (OpenSpec.upto contractFrozenSpec)

/-- 'formelaw38.ContractWidths', WHERE WHAT IT READS IS OF BULK AT MOST 1048576: true; the input reads as it did. -/
def contractWidthsUptoRow : OpenClaim := { program := "ytjpghfjaloglhaa", sum := "9dced78467873777c9b8599a8e5523dca3c2eee675ee649bd744763df78bc56e", func := "forme/formelaw38.ContractWidths", spec := "contractWidths", unfollowed := true, recurses := true, apart := false, narrowed := true }
def ContractWidthsUptoSaid : Prop := contractWidthsUptoRow.holds Try.pinned (OpenSpec.upto contractWidthsSpec)

/-- 'formelaw38.ContractCourses', WHERE WHAT IT READS IS OF BULK AT MOST 1048576: true; the input reads as it did. -/
def contractCoursesUptoRow : OpenClaim := { program := "ytjpghfjaloglhaa", sum := "9dced78467873777c9b8599a8e5523dca3c2eee675ee649bd744763df78bc56e", func := "forme/formelaw38.ContractCourses", spec := "contractCourses", unfollowed := true, recurses := true, apart := false, narrowed := true }
def ContractCoursesUptoSaid : Prop := contractCoursesUptoRow.holds Try.pinned (OpenSpec.upto contractCoursesSpec)

end Rows
end Go.Proofs.Ytjpghfjaloglhaa
