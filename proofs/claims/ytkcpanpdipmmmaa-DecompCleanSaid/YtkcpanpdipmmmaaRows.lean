/-
  No cell of these rows narrows 'for every input' (looked for: loops, veiled, ifaces, maps, wideKeys, modest, calm, conditions, laid).
  DERIVED. THE GIVEN ROWS OF THIS SEAT. 35 by the template 'for every input the law returns true; each argument reads behind the call as it read before'; 0 by the template 'total and deterministic' (their statements: YtkcpanpdipmmmaaTotals.lean).
  GIVEN WITH THE SEED: the statements are not yours to turn. If you find one false, say at which input.
  Laid BY PROGRAM, IN A SANDBOX (cutbox-rows.mjs): the forced cells as the released guide's own fill.sh prints them over the translation ac33069386561270… (all of the seat's roots in one cut). By AI agents, Wed Nov 11 2026. No macro, syntax, notation, axiom, sorry.
-/
import Derived.Test.YtkcpanpdipmmmaaChecked
import GoSem.Claim
import GoSem.ClaimJoined
import GoSem.ClaimMapViews
import Derived.JoinedTies
import Derived.KernelRfl
namespace Go.Proofs.Ytkcpanpdipmmmaa
/- THE CELL 'sum', in the pinned program and in every row, IS THE sha256 OF THE DUMP (.gsa) THAT YtkcpanpdipmmmaaProg.lean LOADS. Nothing in Lean hashes anything: it is a label: what it is worth is what the hold of that sum in a sandbox is worth. -/
noncomputable def Try.pinned : Pinned := { name := "ytkcpanpdipmmmaa", sum := "ac330693865612705022bdc7f7373aed70ec11bfb96ad3fa28a9b56089de44ec", checked := Try.checked }
namespace Rows
def none {H : Type} : Left H := { results := [], args := [] }

/-- 'ebbtidelaw11.CostFars': WHATEVER THE INPUT: true; the input reads as it did. -/
def costFarsSpec : ChangeSpec := { name := "costFars", fn := fun _ => fun
  | [d1, d2, d3] => { results := [.lit (.bool true)], args := [d1, d2, d3] }
  | _ => none }
def costFarsRow : OpenClaim := { program := "ytkcpanpdipmmmaa", sum := "ac330693865612705022bdc7f7373aed70ec11bfb96ad3fa28a9b56089de44ec", func := "ebbtide/ebbtidelaw11.CostFars", spec := "costFars", unfollowed := true, recurses := true, apart := false }
def CostFarsSaid : Prop := costFarsRow.holds Try.pinned (OpenSpec.ofChange costFarsSpec)

/-- ITS FALSE NEIGHBOUR: 'it returns false'. Refute it at one input. -/
def costFarsWrong : ChangeSpec := { name := "costFars", fn := fun _ => fun
  | [d1, d2, d3] => { results := [.lit (.bool false)], args := [d1, d2, d3] }
  | _ => none }
def CostFarsWrongFalsely : Prop := costFarsRow.holds Try.pinned (OpenSpec.ofChange costFarsWrong)

/-- 'ebbtidelaw11.CostSteps': WHATEVER THE INPUT: true; the input reads as it did. -/
def costStepsSpec : ChangeSpec := { name := "costSteps", fn := fun _ => fun
  | [d1, d2, d3] => { results := [.lit (.bool true)], args := [d1, d2, d3] }
  | _ => none }
def costStepsRow : OpenClaim := { program := "ytkcpanpdipmmmaa", sum := "ac330693865612705022bdc7f7373aed70ec11bfb96ad3fa28a9b56089de44ec", func := "ebbtide/ebbtidelaw11.CostSteps", spec := "costSteps", unfollowed := true, recurses := true, apart := false }
def CostStepsSaid : Prop := costStepsRow.holds Try.pinned (OpenSpec.ofChange costStepsSpec)

/-- ITS FALSE NEIGHBOUR: 'it returns false'. Refute it at one input. -/
def costStepsWrong : ChangeSpec := { name := "costSteps", fn := fun _ => fun
  | [d1, d2, d3] => { results := [.lit (.bool false)], args := [d1, d2, d3] }
  | _ => none }
def CostStepsWrongFalsely : Prop := costStepsRow.holds Try.pinned (OpenSpec.ofChange costStepsWrong)

/-- 'ebbtidelaw11.CostEmpty': WHATEVER THE INPUT: true; the input reads as it did. -/
def costEmptySpec : ChangeSpec := { name := "costEmpty", fn := fun _ => fun
  | [d] => { results := [.lit (.bool true)], args := [d] }
  | _ => none }
def costEmptyRow : OpenClaim := { program := "ytkcpanpdipmmmaa", sum := "ac330693865612705022bdc7f7373aed70ec11bfb96ad3fa28a9b56089de44ec", func := "ebbtide/ebbtidelaw11.CostEmpty", spec := "costEmpty", unfollowed := true, recurses := true, apart := false }
def CostEmptySaid : Prop := costEmptyRow.holds Try.pinned (OpenSpec.ofChange costEmptySpec)

/-- ITS FALSE NEIGHBOUR: 'it returns false'. Refute it at one input. -/
def costEmptyWrong : ChangeSpec := { name := "costEmpty", fn := fun _ => fun
  | [d] => { results := [.lit (.bool false)], args := [d] }
  | _ => none }
def CostEmptyWrongFalsely : Prop := costEmptyRow.holds Try.pinned (OpenSpec.ofChange costEmptyWrong)

/-- 'ebbtidelaw11.CostCheapest': WHATEVER THE INPUT: true; the input reads as it did. -/
def costCheapestSpec : ChangeSpec := { name := "costCheapest", fn := fun _ => fun
  | [d1, d2, d3] => { results := [.lit (.bool true)], args := [d1, d2, d3] }
  | _ => none }
def costCheapestRow : OpenClaim := { program := "ytkcpanpdipmmmaa", sum := "ac330693865612705022bdc7f7373aed70ec11bfb96ad3fa28a9b56089de44ec", func := "ebbtide/ebbtidelaw11.CostCheapest", spec := "costCheapest", unfollowed := true, recurses := true, apart := false }
def CostCheapestSaid : Prop := costCheapestRow.holds Try.pinned (OpenSpec.ofChange costCheapestSpec)

/-- ITS FALSE NEIGHBOUR: 'it returns false'. Refute it at one input. -/
def costCheapestWrong : ChangeSpec := { name := "costCheapest", fn := fun _ => fun
  | [d1, d2, d3] => { results := [.lit (.bool false)], args := [d1, d2, d3] }
  | _ => none }
def CostCheapestWrongFalsely : Prop := costCheapestRow.holds Try.pinned (OpenSpec.ofChange costCheapestWrong)

/-- 'ebbtidelaw11.CostTights': WHATEVER THE INPUT: true; the input reads as it did. -/
def costTightsSpec : ChangeSpec := { name := "costTights", fn := fun _ => fun
  | [d1, d2, d3] => { results := [.lit (.bool true)], args := [d1, d2, d3] }
  | _ => none }
def costTightsRow : OpenClaim := { program := "ytkcpanpdipmmmaa", sum := "ac330693865612705022bdc7f7373aed70ec11bfb96ad3fa28a9b56089de44ec", func := "ebbtide/ebbtidelaw11.CostTights", spec := "costTights", unfollowed := true, recurses := true, apart := false }
def CostTightsSaid : Prop := costTightsRow.holds Try.pinned (OpenSpec.ofChange costTightsSpec)

/-- ITS FALSE NEIGHBOUR: 'it returns false'. Refute it at one input. -/
def costTightsWrong : ChangeSpec := { name := "costTights", fn := fun _ => fun
  | [d1, d2, d3] => { results := [.lit (.bool false)], args := [d1, d2, d3] }
  | _ => none }
def CostTightsWrongFalsely : Prop := costTightsRow.holds Try.pinned (OpenSpec.ofChange costTightsWrong)

/-- 'ebbtidelaw11.CostFree': WHATEVER THE INPUT: true; the input reads as it did. -/
def costFreeSpec : ChangeSpec := { name := "costFree", fn := fun _ => fun
  | [d1, d2, d3] => { results := [.lit (.bool true)], args := [d1, d2, d3] }
  | _ => none }
def costFreeRow : OpenClaim := { program := "ytkcpanpdipmmmaa", sum := "ac330693865612705022bdc7f7373aed70ec11bfb96ad3fa28a9b56089de44ec", func := "ebbtide/ebbtidelaw11.CostFree", spec := "costFree", unfollowed := true, recurses := true, apart := false }
def CostFreeSaid : Prop := costFreeRow.holds Try.pinned (OpenSpec.ofChange costFreeSpec)

/-- ITS FALSE NEIGHBOUR: 'it returns false'. Refute it at one input. -/
def costFreeWrong : ChangeSpec := { name := "costFree", fn := fun _ => fun
  | [d1, d2, d3] => { results := [.lit (.bool false)], args := [d1, d2, d3] }
  | _ => none }
def CostFreeWrongFalsely : Prop := costFreeRow.holds Try.pinned (OpenSpec.ofChange costFreeWrong)

/-- 'ebbtidelaw08.LevelFars': WHATEVER THE INPUT: true; the input reads as it did. -/
def levelFarsSpec : ChangeSpec := { name := "levelFars", fn := fun _ => fun
  | [d1, d2, d3] => { results := [.lit (.bool true)], args := [d1, d2, d3] }
  | _ => none }
def levelFarsRow : OpenClaim := { program := "ytkcpanpdipmmmaa", sum := "ac330693865612705022bdc7f7373aed70ec11bfb96ad3fa28a9b56089de44ec", func := "ebbtide/ebbtidelaw08.LevelFars", spec := "levelFars", unfollowed := true, recurses := true, apart := false }
def LevelFarsSaid : Prop := levelFarsRow.holds Try.pinned (OpenSpec.ofChange levelFarsSpec)

/-- ITS FALSE NEIGHBOUR: 'it returns false'. Refute it at one input. -/
def levelFarsWrong : ChangeSpec := { name := "levelFars", fn := fun _ => fun
  | [d1, d2, d3] => { results := [.lit (.bool false)], args := [d1, d2, d3] }
  | _ => none }
def LevelFarsWrongFalsely : Prop := levelFarsRow.holds Try.pinned (OpenSpec.ofChange levelFarsWrong)

/-- 'ebbtidelaw08.LevelPaths': WHATEVER THE INPUT: true; the input reads as it did. -/
def levelPathsSpec : ChangeSpec := { name := "levelPaths", fn := fun _ => fun
  | [d1, d2, d3, d4] => { results := [.lit (.bool true)], args := [d1, d2, d3, d4] }
  | _ => none }
def levelPathsRow : OpenClaim := { program := "ytkcpanpdipmmmaa", sum := "ac330693865612705022bdc7f7373aed70ec11bfb96ad3fa28a9b56089de44ec", func := "ebbtide/ebbtidelaw08.LevelPaths", spec := "levelPaths", unfollowed := true, recurses := true, apart := false }
def LevelPathsSaid : Prop := levelPathsRow.holds Try.pinned (OpenSpec.ofChange levelPathsSpec)

/-- ITS FALSE NEIGHBOUR: 'it returns false'. Refute it at one input. -/
def levelPathsWrong : ChangeSpec := { name := "levelPaths", fn := fun _ => fun
  | [d1, d2, d3, d4] => { results := [.lit (.bool false)], args := [d1, d2, d3, d4] }
  | _ => none }
def LevelPathsWrongFalsely : Prop := levelPathsRow.holds Try.pinned (OpenSpec.ofChange levelPathsWrong)

/-- 'ebbtidelaw08.LevelWays': WHATEVER THE INPUT: true; the input reads as it did. -/
def levelWaysSpec : ChangeSpec := { name := "levelWays", fn := fun _ => fun
  | [d1, d2, d3, d4] => { results := [.lit (.bool true)], args := [d1, d2, d3, d4] }
  | _ => none }
def levelWaysRow : OpenClaim := { program := "ytkcpanpdipmmmaa", sum := "ac330693865612705022bdc7f7373aed70ec11bfb96ad3fa28a9b56089de44ec", func := "ebbtide/ebbtidelaw08.LevelWays", spec := "levelWays", unfollowed := true, recurses := true, apart := false }
def LevelWaysSaid : Prop := levelWaysRow.holds Try.pinned (OpenSpec.ofChange levelWaysSpec)

/-- ITS FALSE NEIGHBOUR: 'it returns false'. Refute it at one input. -/
def levelWaysWrong : ChangeSpec := { name := "levelWays", fn := fun _ => fun
  | [d1, d2, d3, d4] => { results := [.lit (.bool false)], args := [d1, d2, d3, d4] }
  | _ => none }
def LevelWaysWrongFalsely : Prop := levelWaysRow.holds Try.pinned (OpenSpec.ofChange levelWaysWrong)

/-- 'ebbtidelaw08.LevelEdges': WHATEVER THE INPUT: true; the input reads as it did. -/
def levelEdgesSpec : ChangeSpec := { name := "levelEdges", fn := fun _ => fun
  | [d1, d2, d3] => { results := [.lit (.bool true)], args := [d1, d2, d3] }
  | _ => none }
def levelEdgesRow : OpenClaim := { program := "ytkcpanpdipmmmaa", sum := "ac330693865612705022bdc7f7373aed70ec11bfb96ad3fa28a9b56089de44ec", func := "ebbtide/ebbtidelaw08.LevelEdges", spec := "levelEdges", unfollowed := true, recurses := true, apart := false }
def LevelEdgesSaid : Prop := levelEdgesRow.holds Try.pinned (OpenSpec.ofChange levelEdgesSpec)

/-- ITS FALSE NEIGHBOUR: 'it returns false'. Refute it at one input. -/
def levelEdgesWrong : ChangeSpec := { name := "levelEdges", fn := fun _ => fun
  | [d1, d2, d3] => { results := [.lit (.bool false)], args := [d1, d2, d3] }
  | _ => none }
def LevelEdgesWrongFalsely : Prop := levelEdgesRow.holds Try.pinned (OpenSpec.ofChange levelEdgesWrong)

/-- 'ebbtidelaw08.LevelMore': WHATEVER THE INPUT: true; the input reads as it did. -/
def levelMoreSpec : ChangeSpec := { name := "levelMore", fn := fun _ => fun
  | [d1, d2, d3, d4] => { results := [.lit (.bool true)], args := [d1, d2, d3, d4] }
  | _ => none }
def levelMoreRow : OpenClaim := { program := "ytkcpanpdipmmmaa", sum := "ac330693865612705022bdc7f7373aed70ec11bfb96ad3fa28a9b56089de44ec", func := "ebbtide/ebbtidelaw08.LevelMore", spec := "levelMore", unfollowed := true, recurses := true, apart := false }
def LevelMoreSaid : Prop := levelMoreRow.holds Try.pinned (OpenSpec.ofChange levelMoreSpec)

/-- ITS FALSE NEIGHBOUR: 'it returns false'. Refute it at one input. -/
def levelMoreWrong : ChangeSpec := { name := "levelMore", fn := fun _ => fun
  | [d1, d2, d3, d4] => { results := [.lit (.bool false)], args := [d1, d2, d3, d4] }
  | _ => none }
def LevelMoreWrongFalsely : Prop := levelMoreRow.holds Try.pinned (OpenSpec.ofChange levelMoreWrong)

/-- 'ebbtidelaw12.SpanWorths': WHATEVER THE INPUT: true; the input reads as it did. -/
def spanWorthsSpec : ChangeSpec := { name := "spanWorths", fn := fun _ => fun
  | [d1, d2, d3, d4, d5] => { results := [.lit (.bool true)], args := [d1, d2, d3, d4, d5] }
  | _ => none }
def spanWorthsRow : OpenClaim := { program := "ytkcpanpdipmmmaa", sum := "ac330693865612705022bdc7f7373aed70ec11bfb96ad3fa28a9b56089de44ec", func := "ebbtide/ebbtidelaw12.SpanWorths", spec := "spanWorths", unfollowed := true, recurses := true, apart := false }
def SpanWorthsSaid : Prop := spanWorthsRow.holds Try.pinned (OpenSpec.ofChange spanWorthsSpec)

/-- ITS FALSE NEIGHBOUR: 'it returns false'. Refute it at one input. -/
def spanWorthsWrong : ChangeSpec := { name := "spanWorths", fn := fun _ => fun
  | [d1, d2, d3, d4, d5] => { results := [.lit (.bool false)], args := [d1, d2, d3, d4, d5] }
  | _ => none }
def SpanWorthsWrongFalsely : Prop := spanWorthsRow.holds Try.pinned (OpenSpec.ofChange spanWorthsWrong)

/-- 'ebbtidelaw12.SpanMost': WHATEVER THE INPUT: true; the input reads as it did. -/
def spanMostSpec : ChangeSpec := { name := "spanMost", fn := fun _ => fun
  | [d1, d2, d3, d4] => { results := [.lit (.bool true)], args := [d1, d2, d3, d4] }
  | _ => none }
def spanMostRow : OpenClaim := { program := "ytkcpanpdipmmmaa", sum := "ac330693865612705022bdc7f7373aed70ec11bfb96ad3fa28a9b56089de44ec", func := "ebbtide/ebbtidelaw12.SpanMost", spec := "spanMost", unfollowed := true, recurses := true, apart := false }
def SpanMostSaid : Prop := spanMostRow.holds Try.pinned (OpenSpec.ofChange spanMostSpec)

/-- ITS FALSE NEIGHBOUR: 'it returns false'. Refute it at one input. -/
def spanMostWrong : ChangeSpec := { name := "spanMost", fn := fun _ => fun
  | [d1, d2, d3, d4] => { results := [.lit (.bool false)], args := [d1, d2, d3, d4] }
  | _ => none }
def SpanMostWrongFalsely : Prop := spanMostRow.holds Try.pinned (OpenSpec.ofChange spanMostWrong)

/-- 'ebbtidelaw12.SpanBest': WHATEVER THE INPUT: true; the input reads as it did. -/
def spanBestSpec : ChangeSpec := { name := "spanBest", fn := fun _ => fun
  | [d1, d2, d3, d4] => { results := [.lit (.bool true)], args := [d1, d2, d3, d4] }
  | _ => none }
def spanBestRow : OpenClaim := { program := "ytkcpanpdipmmmaa", sum := "ac330693865612705022bdc7f7373aed70ec11bfb96ad3fa28a9b56089de44ec", func := "ebbtide/ebbtidelaw12.SpanBest", spec := "spanBest", unfollowed := true, recurses := true, apart := false }
def SpanBestSaid : Prop := spanBestRow.holds Try.pinned (OpenSpec.ofChange spanBestSpec)

/-- ITS FALSE NEIGHBOUR: 'it returns false'. Refute it at one input. -/
def spanBestWrong : ChangeSpec := { name := "spanBest", fn := fun _ => fun
  | [d1, d2, d3, d4] => { results := [.lit (.bool false)], args := [d1, d2, d3, d4] }
  | _ => none }
def SpanBestWrongFalsely : Prop := spanBestRow.holds Try.pinned (OpenSpec.ofChange spanBestWrong)

/-- 'ebbtidelaw12.SpanTops': WHATEVER THE INPUT: true; the input reads as it did. -/
def spanTopsSpec : ChangeSpec := { name := "spanTops", fn := fun _ => fun
  | [d1, d2, d3, d4, d5] => { results := [.lit (.bool true)], args := [d1, d2, d3, d4, d5] }
  | _ => none }
def spanTopsRow : OpenClaim := { program := "ytkcpanpdipmmmaa", sum := "ac330693865612705022bdc7f7373aed70ec11bfb96ad3fa28a9b56089de44ec", func := "ebbtide/ebbtidelaw12.SpanTops", spec := "spanTops", unfollowed := true, recurses := true, apart := false }
def SpanTopsSaid : Prop := spanTopsRow.holds Try.pinned (OpenSpec.ofChange spanTopsSpec)

/-- ITS FALSE NEIGHBOUR: 'it returns false'. Refute it at one input. -/
def spanTopsWrong : ChangeSpec := { name := "spanTops", fn := fun _ => fun
  | [d1, d2, d3, d4, d5] => { results := [.lit (.bool false)], args := [d1, d2, d3, d4, d5] }
  | _ => none }
def SpanTopsWrongFalsely : Prop := spanTopsRow.holds Try.pinned (OpenSpec.ofChange spanTopsWrong)

/-- 'ebbtidelaw12.SpanShort': WHATEVER THE INPUT: true; the input reads as it did. -/
def spanShortSpec : ChangeSpec := { name := "spanShort", fn := fun _ => fun
  | [d] => { results := [.lit (.bool true)], args := [d] }
  | _ => none }
def spanShortRow : OpenClaim := { program := "ytkcpanpdipmmmaa", sum := "ac330693865612705022bdc7f7373aed70ec11bfb96ad3fa28a9b56089de44ec", func := "ebbtide/ebbtidelaw12.SpanShort", spec := "spanShort", unfollowed := true, recurses := true, apart := false }
def SpanShortSaid : Prop := spanShortRow.holds Try.pinned (OpenSpec.ofChange spanShortSpec)

/-- ITS FALSE NEIGHBOUR: 'it returns false'. Refute it at one input. -/
def spanShortWrong : ChangeSpec := { name := "spanShort", fn := fun _ => fun
  | [d] => { results := [.lit (.bool false)], args := [d] }
  | _ => none }
def SpanShortWrongFalsely : Prop := spanShortRow.holds Try.pinned (OpenSpec.ofChange spanShortWrong)

/-- 'ebbtidelaw09.MaxflowValues': WHATEVER THE INPUT: true; the input reads as it did. -/
def maxflowValuesSpec : ChangeSpec := { name := "maxflowValues", fn := fun _ => fun
  | [d1, d2, d3] => { results := [.lit (.bool true)], args := [d1, d2, d3] }
  | _ => none }
def maxflowValuesRow : OpenClaim := { program := "ytkcpanpdipmmmaa", sum := "ac330693865612705022bdc7f7373aed70ec11bfb96ad3fa28a9b56089de44ec", func := "ebbtide/ebbtidelaw09.MaxflowValues", spec := "maxflowValues", unfollowed := true, recurses := true, apart := false }
def MaxflowValuesSaid : Prop := maxflowValuesRow.holds Try.pinned (OpenSpec.ofChange maxflowValuesSpec)

/-- ITS FALSE NEIGHBOUR: 'it returns false'. Refute it at one input. -/
def maxflowValuesWrong : ChangeSpec := { name := "maxflowValues", fn := fun _ => fun
  | [d1, d2, d3] => { results := [.lit (.bool false)], args := [d1, d2, d3] }
  | _ => none }
def MaxflowValuesWrongFalsely : Prop := maxflowValuesRow.holds Try.pinned (OpenSpec.ofChange maxflowValuesWrong)

/-- 'ebbtidelaw09.MaxflowFlows': WHATEVER THE INPUT: true; the input reads as it did. -/
def maxflowFlowsSpec : ChangeSpec := { name := "maxflowFlows", fn := fun _ => fun
  | [d1, d2, d3] => { results := [.lit (.bool true)], args := [d1, d2, d3] }
  | _ => none }
def maxflowFlowsRow : OpenClaim := { program := "ytkcpanpdipmmmaa", sum := "ac330693865612705022bdc7f7373aed70ec11bfb96ad3fa28a9b56089de44ec", func := "ebbtide/ebbtidelaw09.MaxflowFlows", spec := "maxflowFlows", unfollowed := true, recurses := true, apart := false }
def MaxflowFlowsSaid : Prop := maxflowFlowsRow.holds Try.pinned (OpenSpec.ofChange maxflowFlowsSpec)

/-- ITS FALSE NEIGHBOUR: 'it returns false'. Refute it at one input. -/
def maxflowFlowsWrong : ChangeSpec := { name := "maxflowFlows", fn := fun _ => fun
  | [d1, d2, d3] => { results := [.lit (.bool false)], args := [d1, d2, d3] }
  | _ => none }
def MaxflowFlowsWrongFalsely : Prop := maxflowFlowsRow.holds Try.pinned (OpenSpec.ofChange maxflowFlowsWrong)

/-- 'ebbtidelaw09.MaxflowTops': WHATEVER THE INPUT: true; the input reads as it did. -/
def maxflowTopsSpec : ChangeSpec := { name := "maxflowTops", fn := fun _ => fun
  | [d1, d2, d3, d4] => { results := [.lit (.bool true)], args := [d1, d2, d3, d4] }
  | _ => none }
def maxflowTopsRow : OpenClaim := { program := "ytkcpanpdipmmmaa", sum := "ac330693865612705022bdc7f7373aed70ec11bfb96ad3fa28a9b56089de44ec", func := "ebbtide/ebbtidelaw09.MaxflowTops", spec := "maxflowTops", unfollowed := true, recurses := true, apart := false }
def MaxflowTopsSaid : Prop := maxflowTopsRow.holds Try.pinned (OpenSpec.ofChange maxflowTopsSpec)

/-- ITS FALSE NEIGHBOUR: 'it returns false'. Refute it at one input. -/
def maxflowTopsWrong : ChangeSpec := { name := "maxflowTops", fn := fun _ => fun
  | [d1, d2, d3, d4] => { results := [.lit (.bool false)], args := [d1, d2, d3, d4] }
  | _ => none }
def MaxflowTopsWrongFalsely : Prop := maxflowTopsRow.holds Try.pinned (OpenSpec.ofChange maxflowTopsWrong)

/-- 'ebbtidelaw09.MaxflowMore': WHATEVER THE INPUT: true; the input reads as it did. -/
def maxflowMoreSpec : ChangeSpec := { name := "maxflowMore", fn := fun _ => fun
  | [d1, d2, d3, d4] => { results := [.lit (.bool true)], args := [d1, d2, d3, d4] }
  | _ => none }
def maxflowMoreRow : OpenClaim := { program := "ytkcpanpdipmmmaa", sum := "ac330693865612705022bdc7f7373aed70ec11bfb96ad3fa28a9b56089de44ec", func := "ebbtide/ebbtidelaw09.MaxflowMore", spec := "maxflowMore", unfollowed := true, recurses := true, apart := false }
def MaxflowMoreSaid : Prop := maxflowMoreRow.holds Try.pinned (OpenSpec.ofChange maxflowMoreSpec)

/-- ITS FALSE NEIGHBOUR: 'it returns false'. Refute it at one input. -/
def maxflowMoreWrong : ChangeSpec := { name := "maxflowMore", fn := fun _ => fun
  | [d1, d2, d3, d4] => { results := [.lit (.bool false)], args := [d1, d2, d3, d4] }
  | _ => none }
def MaxflowMoreWrongFalsely : Prop := maxflowMoreRow.holds Try.pinned (OpenSpec.ofChange maxflowMoreWrong)

/-- 'ebbtidelaw09.MaxflowParts': WHATEVER THE INPUT: true; the input reads as it did. -/
def maxflowPartsSpec : ChangeSpec := { name := "maxflowParts", fn := fun _ => fun
  | [d1, d2, d3, d4] => { results := [.lit (.bool true)], args := [d1, d2, d3, d4] }
  | _ => none }
def maxflowPartsRow : OpenClaim := { program := "ytkcpanpdipmmmaa", sum := "ac330693865612705022bdc7f7373aed70ec11bfb96ad3fa28a9b56089de44ec", func := "ebbtide/ebbtidelaw09.MaxflowParts", spec := "maxflowParts", unfollowed := true, recurses := true, apart := false }
def MaxflowPartsSaid : Prop := maxflowPartsRow.holds Try.pinned (OpenSpec.ofChange maxflowPartsSpec)

/-- ITS FALSE NEIGHBOUR: 'it returns false'. Refute it at one input. -/
def maxflowPartsWrong : ChangeSpec := { name := "maxflowParts", fn := fun _ => fun
  | [d1, d2, d3, d4] => { results := [.lit (.bool false)], args := [d1, d2, d3, d4] }
  | _ => none }
def MaxflowPartsWrongFalsely : Prop := maxflowPartsRow.holds Try.pinned (OpenSpec.ofChange maxflowPartsWrong)

/-- 'ebbtidelaw09.MaxflowCounts': WHATEVER THE INPUT: true; the input reads as it did. -/
def maxflowCountsSpec : ChangeSpec := { name := "maxflowCounts", fn := fun _ => fun
  | [d1, d2, d3] => { results := [.lit (.bool true)], args := [d1, d2, d3] }
  | _ => none }
def maxflowCountsRow : OpenClaim := { program := "ytkcpanpdipmmmaa", sum := "ac330693865612705022bdc7f7373aed70ec11bfb96ad3fa28a9b56089de44ec", func := "ebbtide/ebbtidelaw09.MaxflowCounts", spec := "maxflowCounts", unfollowed := true, recurses := true, apart := false }
def MaxflowCountsSaid : Prop := maxflowCountsRow.holds Try.pinned (OpenSpec.ofChange maxflowCountsSpec)

/-- ITS FALSE NEIGHBOUR: 'it returns false'. Refute it at one input. -/
def maxflowCountsWrong : ChangeSpec := { name := "maxflowCounts", fn := fun _ => fun
  | [d1, d2, d3] => { results := [.lit (.bool false)], args := [d1, d2, d3] }
  | _ => none }
def MaxflowCountsWrongFalsely : Prop := maxflowCountsRow.holds Try.pinned (OpenSpec.ofChange maxflowCountsWrong)

/-- 'ebbtidelaw10.MincutLeast': WHATEVER THE INPUT: true; the input reads as it did. -/
def mincutLeastSpec : ChangeSpec := { name := "mincutLeast", fn := fun _ => fun
  | [d1, d2, d3] => { results := [.lit (.bool true)], args := [d1, d2, d3] }
  | _ => none }
def mincutLeastRow : OpenClaim := { program := "ytkcpanpdipmmmaa", sum := "ac330693865612705022bdc7f7373aed70ec11bfb96ad3fa28a9b56089de44ec", func := "ebbtide/ebbtidelaw10.MincutLeast", spec := "mincutLeast", unfollowed := true, recurses := true, apart := false }
def MincutLeastSaid : Prop := mincutLeastRow.holds Try.pinned (OpenSpec.ofChange mincutLeastSpec)

/-- ITS FALSE NEIGHBOUR: 'it returns false'. Refute it at one input. -/
def mincutLeastWrong : ChangeSpec := { name := "mincutLeast", fn := fun _ => fun
  | [d1, d2, d3] => { results := [.lit (.bool false)], args := [d1, d2, d3] }
  | _ => none }
def MincutLeastWrongFalsely : Prop := mincutLeastRow.holds Try.pinned (OpenSpec.ofChange mincutLeastWrong)

/-- 'ebbtidelaw10.MincutBounds': WHATEVER THE INPUT: true; the input reads as it did. -/
def mincutBoundsSpec : ChangeSpec := { name := "mincutBounds", fn := fun _ => fun
  | [d1, d2, d3, d4, d5] => { results := [.lit (.bool true)], args := [d1, d2, d3, d4, d5] }
  | _ => none }
def mincutBoundsRow : OpenClaim := { program := "ytkcpanpdipmmmaa", sum := "ac330693865612705022bdc7f7373aed70ec11bfb96ad3fa28a9b56089de44ec", func := "ebbtide/ebbtidelaw10.MincutBounds", spec := "mincutBounds", unfollowed := true, recurses := true, apart := false }
def MincutBoundsSaid : Prop := mincutBoundsRow.holds Try.pinned (OpenSpec.ofChange mincutBoundsSpec)

/-- ITS FALSE NEIGHBOUR: 'it returns false'. Refute it at one input. -/
def mincutBoundsWrong : ChangeSpec := { name := "mincutBounds", fn := fun _ => fun
  | [d1, d2, d3, d4, d5] => { results := [.lit (.bool false)], args := [d1, d2, d3, d4, d5] }
  | _ => none }
def MincutBoundsWrongFalsely : Prop := mincutBoundsRow.holds Try.pinned (OpenSpec.ofChange mincutBoundsWrong)

/-- 'ebbtidelaw10.MincutSums': WHATEVER THE INPUT: true; the input reads as it did. -/
def mincutSumsSpec : ChangeSpec := { name := "mincutSums", fn := fun _ => fun
  | [d1, d2, d3] => { results := [.lit (.bool true)], args := [d1, d2, d3] }
  | _ => none }
def mincutSumsRow : OpenClaim := { program := "ytkcpanpdipmmmaa", sum := "ac330693865612705022bdc7f7373aed70ec11bfb96ad3fa28a9b56089de44ec", func := "ebbtide/ebbtidelaw10.MincutSums", spec := "mincutSums", unfollowed := true, recurses := true, apart := false }
def MincutSumsSaid : Prop := mincutSumsRow.holds Try.pinned (OpenSpec.ofChange mincutSumsSpec)

/-- ITS FALSE NEIGHBOUR: 'it returns false'. Refute it at one input. -/
def mincutSumsWrong : ChangeSpec := { name := "mincutSums", fn := fun _ => fun
  | [d1, d2, d3] => { results := [.lit (.bool false)], args := [d1, d2, d3] }
  | _ => none }
def MincutSumsWrongFalsely : Prop := mincutSumsRow.holds Try.pinned (OpenSpec.ofChange mincutSumsWrong)

/-- 'ebbtidelaw10.MincutMeets': WHATEVER THE INPUT: true; the input reads as it did. -/
def mincutMeetsSpec : ChangeSpec := { name := "mincutMeets", fn := fun _ => fun
  | [d1, d2, d3] => { results := [.lit (.bool true)], args := [d1, d2, d3] }
  | _ => none }
def mincutMeetsRow : OpenClaim := { program := "ytkcpanpdipmmmaa", sum := "ac330693865612705022bdc7f7373aed70ec11bfb96ad3fa28a9b56089de44ec", func := "ebbtide/ebbtidelaw10.MincutMeets", spec := "mincutMeets", unfollowed := true, recurses := true, apart := false }
def MincutMeetsSaid : Prop := mincutMeetsRow.holds Try.pinned (OpenSpec.ofChange mincutMeetsSpec)

/-- ITS FALSE NEIGHBOUR: 'it returns false'. Refute it at one input. -/
def mincutMeetsWrong : ChangeSpec := { name := "mincutMeets", fn := fun _ => fun
  | [d1, d2, d3] => { results := [.lit (.bool false)], args := [d1, d2, d3] }
  | _ => none }
def MincutMeetsWrongFalsely : Prop := mincutMeetsRow.holds Try.pinned (OpenSpec.ofChange mincutMeetsWrong)

/-- 'ebbtidelaw10.MincutSides': WHATEVER THE INPUT: true; the input reads as it did. -/
def mincutSidesSpec : ChangeSpec := { name := "mincutSides", fn := fun _ => fun
  | [d1, d2, d3, d4] => { results := [.lit (.bool true)], args := [d1, d2, d3, d4] }
  | _ => none }
def mincutSidesRow : OpenClaim := { program := "ytkcpanpdipmmmaa", sum := "ac330693865612705022bdc7f7373aed70ec11bfb96ad3fa28a9b56089de44ec", func := "ebbtide/ebbtidelaw10.MincutSides", spec := "mincutSides", unfollowed := true, recurses := true, apart := false }
def MincutSidesSaid : Prop := mincutSidesRow.holds Try.pinned (OpenSpec.ofChange mincutSidesSpec)

/-- ITS FALSE NEIGHBOUR: 'it returns false'. Refute it at one input. -/
def mincutSidesWrong : ChangeSpec := { name := "mincutSides", fn := fun _ => fun
  | [d1, d2, d3, d4] => { results := [.lit (.bool false)], args := [d1, d2, d3, d4] }
  | _ => none }
def MincutSidesWrongFalsely : Prop := mincutSidesRow.holds Try.pinned (OpenSpec.ofChange mincutSidesWrong)

/-- 'ebbtidelaw13.DecompFlows': WHATEVER THE INPUT: true; the input reads as it did. -/
def decompFlowsSpec : ChangeSpec := { name := "decompFlows", fn := fun _ => fun
  | [d1, d2, d3, d4] => { results := [.lit (.bool true)], args := [d1, d2, d3, d4] }
  | _ => none }
def decompFlowsRow : OpenClaim := { program := "ytkcpanpdipmmmaa", sum := "ac330693865612705022bdc7f7373aed70ec11bfb96ad3fa28a9b56089de44ec", func := "ebbtide/ebbtidelaw13.DecompFlows", spec := "decompFlows", unfollowed := true, recurses := true, apart := false }
def DecompFlowsSaid : Prop := decompFlowsRow.holds Try.pinned (OpenSpec.ofChange decompFlowsSpec)

/-- ITS FALSE NEIGHBOUR: 'it returns false'. Refute it at one input. -/
def decompFlowsWrong : ChangeSpec := { name := "decompFlows", fn := fun _ => fun
  | [d1, d2, d3, d4] => { results := [.lit (.bool false)], args := [d1, d2, d3, d4] }
  | _ => none }
def DecompFlowsWrongFalsely : Prop := decompFlowsRow.holds Try.pinned (OpenSpec.ofChange decompFlowsWrong)

/-- 'ebbtidelaw13.DecompLengths': WHATEVER THE INPUT: true; the input reads as it did. -/
def decompLengthsSpec : ChangeSpec := { name := "decompLengths", fn := fun _ => fun
  | [d1, d2] => { results := [.lit (.bool true)], args := [d1, d2] }
  | _ => none }
def decompLengthsRow : OpenClaim := { program := "ytkcpanpdipmmmaa", sum := "ac330693865612705022bdc7f7373aed70ec11bfb96ad3fa28a9b56089de44ec", func := "ebbtide/ebbtidelaw13.DecompLengths", spec := "decompLengths", unfollowed := true, recurses := true, apart := false }
def DecompLengthsSaid : Prop := decompLengthsRow.holds Try.pinned (OpenSpec.ofChange decompLengthsSpec)

/-- ITS FALSE NEIGHBOUR: 'it returns false'. Refute it at one input. -/
def decompLengthsWrong : ChangeSpec := { name := "decompLengths", fn := fun _ => fun
  | [d1, d2] => { results := [.lit (.bool false)], args := [d1, d2] }
  | _ => none }
def DecompLengthsWrongFalsely : Prop := decompLengthsRow.holds Try.pinned (OpenSpec.ofChange decompLengthsWrong)

/-- 'ebbtidelaw13.DecompWhole': WHATEVER THE INPUT: true; the input reads as it did. -/
def decompWholeSpec : ChangeSpec := { name := "decompWhole", fn := fun _ => fun
  | [d1, d2, d3, d4] => { results := [.lit (.bool true)], args := [d1, d2, d3, d4] }
  | _ => none }
def decompWholeRow : OpenClaim := { program := "ytkcpanpdipmmmaa", sum := "ac330693865612705022bdc7f7373aed70ec11bfb96ad3fa28a9b56089de44ec", func := "ebbtide/ebbtidelaw13.DecompWhole", spec := "decompWhole", unfollowed := true, recurses := true, apart := false }
def DecompWholeSaid : Prop := decompWholeRow.holds Try.pinned (OpenSpec.ofChange decompWholeSpec)

/-- ITS FALSE NEIGHBOUR: 'it returns false'. Refute it at one input. -/
def decompWholeWrong : ChangeSpec := { name := "decompWhole", fn := fun _ => fun
  | [d1, d2, d3, d4] => { results := [.lit (.bool false)], args := [d1, d2, d3, d4] }
  | _ => none }
def DecompWholeWrongFalsely : Prop := decompWholeRow.holds Try.pinned (OpenSpec.ofChange decompWholeWrong)

/-- 'ebbtidelaw10.MincutAny': WHATEVER THE INPUT: true; the input reads as it did. -/
def mincutAnySpec : ChangeSpec := { name := "mincutAny", fn := fun _ => fun
  | [d1, d2, d3, d4] => { results := [.lit (.bool true)], args := [d1, d2, d3, d4] }
  | _ => none }
def mincutAnyRow : OpenClaim := { program := "ytkcpanpdipmmmaa", sum := "ac330693865612705022bdc7f7373aed70ec11bfb96ad3fa28a9b56089de44ec", func := "ebbtide/ebbtidelaw10.MincutAny", spec := "mincutAny", unfollowed := true, recurses := true, apart := false }
def MincutAnySaid : Prop := mincutAnyRow.holds Try.pinned (OpenSpec.ofChange mincutAnySpec)

/-- ITS FALSE NEIGHBOUR: 'it returns false'. Refute it at one input. -/
def mincutAnyWrong : ChangeSpec := { name := "mincutAny", fn := fun _ => fun
  | [d1, d2, d3, d4] => { results := [.lit (.bool false)], args := [d1, d2, d3, d4] }
  | _ => none }
def MincutAnyWrongFalsely : Prop := mincutAnyRow.holds Try.pinned (OpenSpec.ofChange mincutAnyWrong)

/-- 'ebbtidelaw13.DecompSplits': WHATEVER THE INPUT: true; the input reads as it did. -/
def decompSplitsSpec : ChangeSpec := { name := "decompSplits", fn := fun _ => fun
  | [d1, d2, d3, d4] => { results := [.lit (.bool true)], args := [d1, d2, d3, d4] }
  | _ => none }
def decompSplitsRow : OpenClaim := { program := "ytkcpanpdipmmmaa", sum := "ac330693865612705022bdc7f7373aed70ec11bfb96ad3fa28a9b56089de44ec", func := "ebbtide/ebbtidelaw13.DecompSplits", spec := "decompSplits", unfollowed := true, recurses := true, apart := false }
def DecompSplitsSaid : Prop := decompSplitsRow.holds Try.pinned (OpenSpec.ofChange decompSplitsSpec)

/-- ITS FALSE NEIGHBOUR: 'it returns false'. Refute it at one input. -/
def decompSplitsWrong : ChangeSpec := { name := "decompSplits", fn := fun _ => fun
  | [d1, d2, d3, d4] => { results := [.lit (.bool false)], args := [d1, d2, d3, d4] }
  | _ => none }
def DecompSplitsWrongFalsely : Prop := decompSplitsRow.holds Try.pinned (OpenSpec.ofChange decompSplitsWrong)

/-- 'ebbtidelaw13.DecompClean': WHATEVER THE INPUT: true; the input reads as it did. -/
def decompCleanSpec : ChangeSpec := { name := "decompClean", fn := fun _ => fun
  | [d1, d2, d3, d4] => { results := [.lit (.bool true)], args := [d1, d2, d3, d4] }
  | _ => none }
def decompCleanRow : OpenClaim := { program := "ytkcpanpdipmmmaa", sum := "ac330693865612705022bdc7f7373aed70ec11bfb96ad3fa28a9b56089de44ec", func := "ebbtide/ebbtidelaw13.DecompClean", spec := "decompClean", unfollowed := true, recurses := true, apart := false }
def DecompCleanSaid : Prop := decompCleanRow.holds Try.pinned (OpenSpec.ofChange decompCleanSpec)

/-- ITS FALSE NEIGHBOUR: 'it returns false'. Refute it at one input. -/
def decompCleanWrong : ChangeSpec := { name := "decompClean", fn := fun _ => fun
  | [d1, d2, d3, d4] => { results := [.lit (.bool false)], args := [d1, d2, d3, d4] }
  | _ => none }
def DecompCleanWrongFalsely : Prop := decompCleanRow.holds Try.pinned (OpenSpec.ofChange decompCleanWrong)

/-- 'ebbtidelaw12.SpanGrows': WHATEVER THE INPUT: true; the input reads as it did. -/
def spanGrowsSpec : ChangeSpec := { name := "spanGrows", fn := fun _ => fun
  | [d] => { results := [.lit (.bool true)], args := [d] }
  | _ => none }
def spanGrowsRow : OpenClaim := { program := "ytkcpanpdipmmmaa", sum := "ac330693865612705022bdc7f7373aed70ec11bfb96ad3fa28a9b56089de44ec", func := "ebbtide/ebbtidelaw12.SpanGrows", spec := "spanGrows", unfollowed := true, recurses := true, apart := false }
def SpanGrowsSaid : Prop := spanGrowsRow.holds Try.pinned (OpenSpec.ofChange spanGrowsSpec)

/-- ITS FALSE NEIGHBOUR: 'it returns false'. Refute it at one input. -/
def spanGrowsWrong : ChangeSpec := { name := "spanGrows", fn := fun _ => fun
  | [d] => { results := [.lit (.bool false)], args := [d] }
  | _ => none }
def SpanGrowsWrongFalsely : Prop := spanGrowsRow.holds Try.pinned (OpenSpec.ofChange spanGrowsWrong)

/-- 'ebbtidelaw12.SpanStill': WHATEVER THE INPUT: true; the input reads as it did. -/
def spanStillSpec : ChangeSpec := { name := "spanStill", fn := fun _ => fun
  | [d] => { results := [.lit (.bool true)], args := [d] }
  | _ => none }
def spanStillRow : OpenClaim := { program := "ytkcpanpdipmmmaa", sum := "ac330693865612705022bdc7f7373aed70ec11bfb96ad3fa28a9b56089de44ec", func := "ebbtide/ebbtidelaw12.SpanStill", spec := "spanStill", unfollowed := true, recurses := true, apart := false }
def SpanStillSaid : Prop := spanStillRow.holds Try.pinned (OpenSpec.ofChange spanStillSpec)

/-- ITS FALSE NEIGHBOUR: 'it returns false'. Refute it at one input. -/
def spanStillWrong : ChangeSpec := { name := "spanStill", fn := fun _ => fun
  | [d] => { results := [.lit (.bool false)], args := [d] }
  | _ => none }
def SpanStillWrongFalsely : Prop := spanStillRow.holds Try.pinned (OpenSpec.ofChange spanStillWrong)

/- THE SECOND FORM. 'bulk': how many values and letters a reading holds, each counted each time it is reached (what is shared counts as often as it is met; a slice's spare places count too). A statement '..UptoSaid' is the law's where the arguments, and the package variables that the reading takes, are together of bulk at most 1048576: NARROWER than '..Said'. Prove '..Said' where nothing that the law and all that it calls make is longer than what came in: it says more and counts as full. Else prove '..UptoSaid'. A law counts once. -/
mutual
def uptoBulk {H : Type} : DataW H → Nat
  | .lit (.string bytes) => bytes.length + 1
  | .lit _ => 1
  | .nil => 1
  | .ptr d => uptoBulk d + 1
  | .slice elems spare => uptoBulkAll elems + uptoBulkAll spare + 1
  | .agg parts => uptoBulkAll parts + 1
  | .iface _ d => uptoBulk d + 1
  | .map entries => uptoBulkEntries entries + 1
  | .held _ => 1
def uptoBulkAll {H : Type} : List (DataW H) → Nat
  | [] => 0
  | d :: r => uptoBulk d + uptoBulkAll r
def uptoBulkEntries {H : Type} : List (Lit × DataW H) → Nat
  | [] => 0
  | x :: r => uptoBulkEntry x + uptoBulkEntries r
def uptoBulkEntry {H : Type} : Lit × DataW H → Nat
  | (.string bytes, d) => bytes.length + uptoBulk d + 1
  | (_, d) => uptoBulk d + 1
 end
def uptoSmall : (H : Type) → List (DataW H) → Bool := fun _ ds => decide (uptoBulkAll ds ≤ 1048576)
def OpenSpec.upto (s : _root_.Go.ChangeSpec) : _root_.Go.OpenSpec := { _root_.Go.OpenSpec.ofChange s with cond := some uptoSmall }

/-- 'ebbtidelaw11.CostFars', WHERE WHAT IT READS IS OF BULK AT MOST 1048576: true; the input reads as it did. -/
def costFarsUptoRow : OpenClaim := { program := "ytkcpanpdipmmmaa", sum := "ac330693865612705022bdc7f7373aed70ec11bfb96ad3fa28a9b56089de44ec", func := "ebbtide/ebbtidelaw11.CostFars", spec := "costFars", unfollowed := true, recurses := true, apart := false, narrowed := true }
def CostFarsUptoSaid : Prop := costFarsUptoRow.holds Try.pinned (OpenSpec.upto costFarsSpec)

/-- 'ebbtidelaw11.CostSteps', WHERE WHAT IT READS IS OF BULK AT MOST 1048576: true; the input reads as it did. -/
def costStepsUptoRow : OpenClaim := { program := "ytkcpanpdipmmmaa", sum := "ac330693865612705022bdc7f7373aed70ec11bfb96ad3fa28a9b56089de44ec", func := "ebbtide/ebbtidelaw11.CostSteps", spec := "costSteps", unfollowed := true, recurses := true, apart := false, narrowed := true }
def CostStepsUptoSaid : Prop := costStepsUptoRow.holds Try.pinned (OpenSpec.upto costStepsSpec)

/-- 'ebbtidelaw11.CostEmpty', WHERE WHAT IT READS IS OF BULK AT MOST 1048576: true; the input reads as it did. -/
def costEmptyUptoRow : OpenClaim := { program := "ytkcpanpdipmmmaa", sum := "ac330693865612705022bdc7f7373aed70ec11bfb96ad3fa28a9b56089de44ec", func := "ebbtide/ebbtidelaw11.CostEmpty", spec := "costEmpty", unfollowed := true, recurses := true, apart := false, narrowed := true }
def CostEmptyUptoSaid : Prop := costEmptyUptoRow.holds Try.pinned (OpenSpec.upto costEmptySpec)

/-- 'ebbtidelaw11.CostCheapest', WHERE WHAT IT READS IS OF BULK AT MOST 1048576: true; the input reads as it did. -/
def costCheapestUptoRow : OpenClaim := { program := "ytkcpanpdipmmmaa", sum := "ac330693865612705022bdc7f7373aed70ec11bfb96ad3fa28a9b56089de44ec", func := "ebbtide/ebbtidelaw11.CostCheapest", spec := "costCheapest", unfollowed := true, recurses := true, apart := false, narrowed := true }
def CostCheapestUptoSaid : Prop := costCheapestUptoRow.holds Try.pinned (OpenSpec.upto costCheapestSpec)

/-- 'ebbtidelaw11.CostTights', WHERE WHAT IT READS IS OF BULK AT MOST 1048576: true; the input reads as it did. -/
def costTightsUptoRow : OpenClaim := { program := "ytkcpanpdipmmmaa", sum := "ac330693865612705022bdc7f7373aed70ec11bfb96ad3fa28a9b56089de44ec", func := "ebbtide/ebbtidelaw11.CostTights", spec := "costTights", unfollowed := true, recurses := true, apart := false, narrowed := true }
def CostTightsUptoSaid : Prop := costTightsUptoRow.holds Try.pinned (OpenSpec.upto costTightsSpec)

/-- 'ebbtidelaw11.CostFree', WHERE WHAT IT READS IS OF BULK AT MOST 1048576: true; the input reads as it did. -/
def costFreeUptoRow : OpenClaim := { program := "ytkcpanpdipmmmaa", sum := "ac330693865612705022bdc7f7373aed70ec11bfb96ad3fa28a9b56089de44ec", func := "ebbtide/ebbtidelaw11.CostFree", spec := "costFree", unfollowed := true, recurses := true, apart := false, narrowed := true }
def CostFreeUptoSaid : Prop := costFreeUptoRow.holds Try.pinned (OpenSpec.upto costFreeSpec)

/-- 'ebbtidelaw08.LevelFars', WHERE WHAT IT READS IS OF BULK AT MOST 1048576: true; the input reads as it did. -/
def levelFarsUptoRow : OpenClaim := { program := "ytkcpanpdipmmmaa", sum := "ac330693865612705022bdc7f7373aed70ec11bfb96ad3fa28a9b56089de44ec", func := "ebbtide/ebbtidelaw08.LevelFars", spec := "levelFars", unfollowed := true, recurses := true, apart := false, narrowed := true }
def LevelFarsUptoSaid : Prop := levelFarsUptoRow.holds Try.pinned (OpenSpec.upto levelFarsSpec)

/-- 'ebbtidelaw08.LevelPaths', WHERE WHAT IT READS IS OF BULK AT MOST 1048576: true; the input reads as it did. -/
def levelPathsUptoRow : OpenClaim := { program := "ytkcpanpdipmmmaa", sum := "ac330693865612705022bdc7f7373aed70ec11bfb96ad3fa28a9b56089de44ec", func := "ebbtide/ebbtidelaw08.LevelPaths", spec := "levelPaths", unfollowed := true, recurses := true, apart := false, narrowed := true }
def LevelPathsUptoSaid : Prop := levelPathsUptoRow.holds Try.pinned (OpenSpec.upto levelPathsSpec)

/-- 'ebbtidelaw08.LevelWays', WHERE WHAT IT READS IS OF BULK AT MOST 1048576: true; the input reads as it did. -/
def levelWaysUptoRow : OpenClaim := { program := "ytkcpanpdipmmmaa", sum := "ac330693865612705022bdc7f7373aed70ec11bfb96ad3fa28a9b56089de44ec", func := "ebbtide/ebbtidelaw08.LevelWays", spec := "levelWays", unfollowed := true, recurses := true, apart := false, narrowed := true }
def LevelWaysUptoSaid : Prop := levelWaysUptoRow.holds Try.pinned (OpenSpec.upto levelWaysSpec)

/-- 'ebbtidelaw08.LevelEdges', WHERE WHAT IT READS IS OF BULK AT MOST 1048576: true; the input reads as it did. -/
def levelEdgesUptoRow : OpenClaim := { program := "ytkcpanpdipmmmaa", sum := "ac330693865612705022bdc7f7373aed70ec11bfb96ad3fa28a9b56089de44ec", func := "ebbtide/ebbtidelaw08.LevelEdges", spec := "levelEdges", unfollowed := true, recurses := true, apart := false, narrowed := true }
def LevelEdgesUptoSaid : Prop := levelEdgesUptoRow.holds Try.pinned (OpenSpec.upto levelEdgesSpec)

/-- 'ebbtidelaw08.LevelMore', WHERE WHAT IT READS IS OF BULK AT MOST 1048576: true; the input reads as it did. -/
def levelMoreUptoRow : OpenClaim := { program := "ytkcpanpdipmmmaa", sum := "ac330693865612705022bdc7f7373aed70ec11bfb96ad3fa28a9b56089de44ec", func := "ebbtide/ebbtidelaw08.LevelMore", spec := "levelMore", unfollowed := true, recurses := true, apart := false, narrowed := true }
def LevelMoreUptoSaid : Prop := levelMoreUptoRow.holds Try.pinned (OpenSpec.upto levelMoreSpec)

/-- 'ebbtidelaw12.SpanWorths', WHERE WHAT IT READS IS OF BULK AT MOST 1048576: true; the input reads as it did. -/
def spanWorthsUptoRow : OpenClaim := { program := "ytkcpanpdipmmmaa", sum := "ac330693865612705022bdc7f7373aed70ec11bfb96ad3fa28a9b56089de44ec", func := "ebbtide/ebbtidelaw12.SpanWorths", spec := "spanWorths", unfollowed := true, recurses := true, apart := false, narrowed := true }
def SpanWorthsUptoSaid : Prop := spanWorthsUptoRow.holds Try.pinned (OpenSpec.upto spanWorthsSpec)

/-- 'ebbtidelaw12.SpanMost', WHERE WHAT IT READS IS OF BULK AT MOST 1048576: true; the input reads as it did. -/
def spanMostUptoRow : OpenClaim := { program := "ytkcpanpdipmmmaa", sum := "ac330693865612705022bdc7f7373aed70ec11bfb96ad3fa28a9b56089de44ec", func := "ebbtide/ebbtidelaw12.SpanMost", spec := "spanMost", unfollowed := true, recurses := true, apart := false, narrowed := true }
def SpanMostUptoSaid : Prop := spanMostUptoRow.holds Try.pinned (OpenSpec.upto spanMostSpec)

/-- 'ebbtidelaw12.SpanBest', WHERE WHAT IT READS IS OF BULK AT MOST 1048576: true; the input reads as it did. -/
def spanBestUptoRow : OpenClaim := { program := "ytkcpanpdipmmmaa", sum := "ac330693865612705022bdc7f7373aed70ec11bfb96ad3fa28a9b56089de44ec", func := "ebbtide/ebbtidelaw12.SpanBest", spec := "spanBest", unfollowed := true, recurses := true, apart := false, narrowed := true }
def SpanBestUptoSaid : Prop := spanBestUptoRow.holds Try.pinned (OpenSpec.upto spanBestSpec)

/-- 'ebbtidelaw12.SpanTops', WHERE WHAT IT READS IS OF BULK AT MOST 1048576: true; the input reads as it did. -/
def spanTopsUptoRow : OpenClaim := { program := "ytkcpanpdipmmmaa", sum := "ac330693865612705022bdc7f7373aed70ec11bfb96ad3fa28a9b56089de44ec", func := "ebbtide/ebbtidelaw12.SpanTops", spec := "spanTops", unfollowed := true, recurses := true, apart := false, narrowed := true }
def SpanTopsUptoSaid : Prop := spanTopsUptoRow.holds Try.pinned (OpenSpec.upto spanTopsSpec)

/-- 'ebbtidelaw12.SpanShort', WHERE WHAT IT READS IS OF BULK AT MOST 1048576: true; the input reads as it did. -/
def spanShortUptoRow : OpenClaim := { program := "ytkcpanpdipmmmaa", sum := "ac330693865612705022bdc7f7373aed70ec11bfb96ad3fa28a9b56089de44ec", func := "ebbtide/ebbtidelaw12.SpanShort", spec := "spanShort", unfollowed := true, recurses := true, apart := false, narrowed := true }
def SpanShortUptoSaid : Prop := spanShortUptoRow.holds Try.pinned (OpenSpec.upto spanShortSpec)

/-- 'ebbtidelaw09.MaxflowValues', WHERE WHAT IT READS IS OF BULK AT MOST 1048576: true; the input reads as it did. -/
def maxflowValuesUptoRow : OpenClaim := { program := "ytkcpanpdipmmmaa", sum := "ac330693865612705022bdc7f7373aed70ec11bfb96ad3fa28a9b56089de44ec", func := "ebbtide/ebbtidelaw09.MaxflowValues", spec := "maxflowValues", unfollowed := true, recurses := true, apart := false, narrowed := true }
def MaxflowValuesUptoSaid : Prop := maxflowValuesUptoRow.holds Try.pinned (OpenSpec.upto maxflowValuesSpec)

/-- 'ebbtidelaw09.MaxflowFlows', WHERE WHAT IT READS IS OF BULK AT MOST 1048576: true; the input reads as it did. -/
def maxflowFlowsUptoRow : OpenClaim := { program := "ytkcpanpdipmmmaa", sum := "ac330693865612705022bdc7f7373aed70ec11bfb96ad3fa28a9b56089de44ec", func := "ebbtide/ebbtidelaw09.MaxflowFlows", spec := "maxflowFlows", unfollowed := true, recurses := true, apart := false, narrowed := true }
def MaxflowFlowsUptoSaid : Prop := maxflowFlowsUptoRow.holds Try.pinned (OpenSpec.upto maxflowFlowsSpec)

/-- 'ebbtidelaw09.MaxflowTops', WHERE WHAT IT READS IS OF BULK AT MOST 1048576: true; the input reads as it did. -/
def maxflowTopsUptoRow : OpenClaim := { program := "ytkcpanpdipmmmaa", sum := "ac330693865612705022bdc7f7373aed70ec11bfb96ad3fa28a9b56089de44ec", func := "ebbtide/ebbtidelaw09.MaxflowTops", spec := "maxflowTops", unfollowed := true, recurses := true, apart := false, narrowed := true }
def MaxflowTopsUptoSaid : Prop := maxflowTopsUptoRow.holds Try.pinned (OpenSpec.upto maxflowTopsSpec)

/-- 'ebbtidelaw09.MaxflowMore', WHERE WHAT IT READS IS OF BULK AT MOST 1048576: true; the input reads as it did. -/
def maxflowMoreUptoRow : OpenClaim := { program := "ytkcpanpdipmmmaa", sum := "ac330693865612705022bdc7f7373aed70ec11bfb96ad3fa28a9b56089de44ec", func := "ebbtide/ebbtidelaw09.MaxflowMore", spec := "maxflowMore", unfollowed := true, recurses := true, apart := false, narrowed := true }
def MaxflowMoreUptoSaid : Prop := maxflowMoreUptoRow.holds Try.pinned (OpenSpec.upto maxflowMoreSpec)

/-- 'ebbtidelaw09.MaxflowParts', WHERE WHAT IT READS IS OF BULK AT MOST 1048576: true; the input reads as it did. -/
def maxflowPartsUptoRow : OpenClaim := { program := "ytkcpanpdipmmmaa", sum := "ac330693865612705022bdc7f7373aed70ec11bfb96ad3fa28a9b56089de44ec", func := "ebbtide/ebbtidelaw09.MaxflowParts", spec := "maxflowParts", unfollowed := true, recurses := true, apart := false, narrowed := true }
def MaxflowPartsUptoSaid : Prop := maxflowPartsUptoRow.holds Try.pinned (OpenSpec.upto maxflowPartsSpec)

/-- 'ebbtidelaw09.MaxflowCounts', WHERE WHAT IT READS IS OF BULK AT MOST 1048576: true; the input reads as it did. -/
def maxflowCountsUptoRow : OpenClaim := { program := "ytkcpanpdipmmmaa", sum := "ac330693865612705022bdc7f7373aed70ec11bfb96ad3fa28a9b56089de44ec", func := "ebbtide/ebbtidelaw09.MaxflowCounts", spec := "maxflowCounts", unfollowed := true, recurses := true, apart := false, narrowed := true }
def MaxflowCountsUptoSaid : Prop := maxflowCountsUptoRow.holds Try.pinned (OpenSpec.upto maxflowCountsSpec)

/-- 'ebbtidelaw10.MincutLeast', WHERE WHAT IT READS IS OF BULK AT MOST 1048576: true; the input reads as it did. -/
def mincutLeastUptoRow : OpenClaim := { program := "ytkcpanpdipmmmaa", sum := "ac330693865612705022bdc7f7373aed70ec11bfb96ad3fa28a9b56089de44ec", func := "ebbtide/ebbtidelaw10.MincutLeast", spec := "mincutLeast", unfollowed := true, recurses := true, apart := false, narrowed := true }
def MincutLeastUptoSaid : Prop := mincutLeastUptoRow.holds Try.pinned (OpenSpec.upto mincutLeastSpec)

/-- 'ebbtidelaw10.MincutBounds', WHERE WHAT IT READS IS OF BULK AT MOST 1048576: true; the input reads as it did. -/
def mincutBoundsUptoRow : OpenClaim := { program := "ytkcpanpdipmmmaa", sum := "ac330693865612705022bdc7f7373aed70ec11bfb96ad3fa28a9b56089de44ec", func := "ebbtide/ebbtidelaw10.MincutBounds", spec := "mincutBounds", unfollowed := true, recurses := true, apart := false, narrowed := true }
def MincutBoundsUptoSaid : Prop := mincutBoundsUptoRow.holds Try.pinned (OpenSpec.upto mincutBoundsSpec)

/-- 'ebbtidelaw10.MincutSums', WHERE WHAT IT READS IS OF BULK AT MOST 1048576: true; the input reads as it did. -/
def mincutSumsUptoRow : OpenClaim := { program := "ytkcpanpdipmmmaa", sum := "ac330693865612705022bdc7f7373aed70ec11bfb96ad3fa28a9b56089de44ec", func := "ebbtide/ebbtidelaw10.MincutSums", spec := "mincutSums", unfollowed := true, recurses := true, apart := false, narrowed := true }
def MincutSumsUptoSaid : Prop := mincutSumsUptoRow.holds Try.pinned (OpenSpec.upto mincutSumsSpec)

/-- 'ebbtidelaw10.MincutMeets', WHERE WHAT IT READS IS OF BULK AT MOST 1048576: true; the input reads as it did. -/
def mincutMeetsUptoRow : OpenClaim := { program := "ytkcpanpdipmmmaa", sum := "ac330693865612705022bdc7f7373aed70ec11bfb96ad3fa28a9b56089de44ec", func := "ebbtide/ebbtidelaw10.MincutMeets", spec := "mincutMeets", unfollowed := true, recurses := true, apart := false, narrowed := true }
def MincutMeetsUptoSaid : Prop := mincutMeetsUptoRow.holds Try.pinned (OpenSpec.upto mincutMeetsSpec)

/-- 'ebbtidelaw10.MincutSides', WHERE WHAT IT READS IS OF BULK AT MOST 1048576: true; the input reads as it did. -/
def mincutSidesUptoRow : OpenClaim := { program := "ytkcpanpdipmmmaa", sum := "ac330693865612705022bdc7f7373aed70ec11bfb96ad3fa28a9b56089de44ec", func := "ebbtide/ebbtidelaw10.MincutSides", spec := "mincutSides", unfollowed := true, recurses := true, apart := false, narrowed := true }
def MincutSidesUptoSaid : Prop := mincutSidesUptoRow.holds Try.pinned (OpenSpec.upto mincutSidesSpec)

/-- 'ebbtidelaw13.DecompFlows', WHERE WHAT IT READS IS OF BULK AT MOST 1048576: true; the input reads as it did. -/
def decompFlowsUptoRow : OpenClaim := { program := "ytkcpanpdipmmmaa", sum := "ac330693865612705022bdc7f7373aed70ec11bfb96ad3fa28a9b56089de44ec", func := "ebbtide/ebbtidelaw13.DecompFlows", spec := "decompFlows", unfollowed := true, recurses := true, apart := false, narrowed := true }
def DecompFlowsUptoSaid : Prop := decompFlowsUptoRow.holds Try.pinned (OpenSpec.upto decompFlowsSpec)

/-- 'ebbtidelaw13.DecompLengths', WHERE WHAT IT READS IS OF BULK AT MOST 1048576: true; the input reads as it did. -/
def decompLengthsUptoRow : OpenClaim := { program := "ytkcpanpdipmmmaa", sum := "ac330693865612705022bdc7f7373aed70ec11bfb96ad3fa28a9b56089de44ec", func := "ebbtide/ebbtidelaw13.DecompLengths", spec := "decompLengths", unfollowed := true, recurses := true, apart := false, narrowed := true }
def DecompLengthsUptoSaid : Prop := decompLengthsUptoRow.holds Try.pinned (OpenSpec.upto decompLengthsSpec)

/-- 'ebbtidelaw13.DecompWhole', WHERE WHAT IT READS IS OF BULK AT MOST 1048576: true; the input reads as it did. -/
def decompWholeUptoRow : OpenClaim := { program := "ytkcpanpdipmmmaa", sum := "ac330693865612705022bdc7f7373aed70ec11bfb96ad3fa28a9b56089de44ec", func := "ebbtide/ebbtidelaw13.DecompWhole", spec := "decompWhole", unfollowed := true, recurses := true, apart := false, narrowed := true }
def DecompWholeUptoSaid : Prop := decompWholeUptoRow.holds Try.pinned (OpenSpec.upto decompWholeSpec)

/-- 'ebbtidelaw10.MincutAny', WHERE WHAT IT READS IS OF BULK AT MOST 1048576: true; the input reads as it did. -/
def mincutAnyUptoRow : OpenClaim := { program := "ytkcpanpdipmmmaa", sum := "ac330693865612705022bdc7f7373aed70ec11bfb96ad3fa28a9b56089de44ec", func := "ebbtide/ebbtidelaw10.MincutAny", spec := "mincutAny", unfollowed := true, recurses := true, apart := false, narrowed := true }
def MincutAnyUptoSaid : Prop := mincutAnyUptoRow.holds Try.pinned (OpenSpec.upto mincutAnySpec)

/-- 'ebbtidelaw13.DecompSplits', WHERE WHAT IT READS IS OF BULK AT MOST 1048576: true; the input reads as it did. -/
def decompSplitsUptoRow : OpenClaim := { program := "ytkcpanpdipmmmaa", sum := "ac330693865612705022bdc7f7373aed70ec11bfb96ad3fa28a9b56089de44ec", func := "ebbtide/ebbtidelaw13.DecompSplits", spec := "decompSplits", unfollowed := true, recurses := true, apart := false, narrowed := true }
def DecompSplitsUptoSaid : Prop := decompSplitsUptoRow.holds Try.pinned (OpenSpec.upto decompSplitsSpec)

/-- 'ebbtidelaw13.DecompClean', WHERE WHAT IT READS IS OF BULK AT MOST 1048576: true; the input reads as it did. -/
def decompCleanUptoRow : OpenClaim := { program := "ytkcpanpdipmmmaa", sum := "ac330693865612705022bdc7f7373aed70ec11bfb96ad3fa28a9b56089de44ec", func := "ebbtide/ebbtidelaw13.DecompClean", spec := "decompClean", unfollowed := true, recurses := true, apart := false, narrowed := true }
def DecompCleanUptoSaid : Prop := decompCleanUptoRow.holds Try.pinned (OpenSpec.upto decompCleanSpec)

/-- 'ebbtidelaw12.SpanGrows', WHERE WHAT IT READS IS OF BULK AT MOST 1048576: true; the input reads as it did. -/
def spanGrowsUptoRow : OpenClaim := { program := "ytkcpanpdipmmmaa", sum := "ac330693865612705022bdc7f7373aed70ec11bfb96ad3fa28a9b56089de44ec", func := "ebbtide/ebbtidelaw12.SpanGrows", spec := "spanGrows", unfollowed := true, recurses := true, apart := false, narrowed := true }
def SpanGrowsUptoSaid : Prop := spanGrowsUptoRow.holds Try.pinned (OpenSpec.upto spanGrowsSpec)

/-- 'ebbtidelaw12.SpanStill', WHERE WHAT IT READS IS OF BULK AT MOST 1048576: true; the input reads as it did. -/
def spanStillUptoRow : OpenClaim := { program := "ytkcpanpdipmmmaa", sum := "ac330693865612705022bdc7f7373aed70ec11bfb96ad3fa28a9b56089de44ec", func := "ebbtide/ebbtidelaw12.SpanStill", spec := "spanStill", unfollowed := true, recurses := true, apart := false, narrowed := true }
def SpanStillUptoSaid : Prop := spanStillUptoRow.holds Try.pinned (OpenSpec.upto spanStillSpec)

end Rows
end Go.Proofs.Ytkcpanpdipmmmaa
