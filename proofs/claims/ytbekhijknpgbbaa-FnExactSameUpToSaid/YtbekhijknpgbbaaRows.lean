/-
  No cell of these rows narrows 'for every input' (looked for: loops, veiled, ifaces, maps, wideKeys, modest, calm, conditions, laid).
  DERIVED. THE GIVEN ROWS OF THIS SEAT. 25 by the template 'for every input the law returns true; each argument reads behind the call as it read before'; 0 by the template 'total and deterministic' (their statements: YtbekhijknpgbbaaTotals.lean).
  GIVEN WITH THE SEED: the statements are not yours to turn. If you find one false, say at which input.
  Laid BY PROGRAM, IN A SANDBOX (cutbox-rows.mjs): the forced cells as the released guide's own fill.sh prints them over the translation fb268fc0c0504f4a… (all of the seat's roots in one cut). By AI agents, Wed Nov 11 2026. No macro, syntax, notation, axiom, sorry.
-/
import Derived.Test.YtbekhijknpgbbaaChecked
import GoSem.Claim
import GoSem.ClaimJoined
import GoSem.ClaimMapViews
import Derived.JoinedTies
import Derived.KernelRfl
namespace Go.Proofs.Ytbekhijknpgbbaa
/- THE CELL 'sum', in the pinned program and in every row, IS THE sha256 OF THE DUMP (.gsa) THAT YtbekhijknpgbbaaProg.lean LOADS. Nothing in Lean hashes anything: it is a label: what it is worth is what the hold of that sum in a sandbox is worth. -/
noncomputable def Try.pinned : Pinned := { name := "ytbekhijknpgbbaa", sum := "fb268fc0c0504f4a80ea7de3057018408eb546e68f5c41f2b4f0e3c3f194cfe0", checked := Try.checked }
namespace Rows
def none {H : Type} : Left H := { results := [], args := [] }

/-- 'laws.FnExactConstants': WHATEVER THE INPUT: true; the input reads as it did. -/
def fnExactConstantsSpec : ChangeSpec := { name := "fnExactConstants", fn := fun _ => fun
  | [] => { results := [.lit (.bool true)], args := [] }
  | _ => none }
def fnExactConstantsRow : OpenClaim := { program := "ytbekhijknpgbbaa", sum := "fb268fc0c0504f4a80ea7de3057018408eb546e68f5c41f2b4f0e3c3f194cfe0", func := "loop.example/g00682/laws.FnExactConstants", spec := "fnExactConstants", apart := false }
def FnExactConstantsSaid : Prop := fnExactConstantsRow.holds Try.pinned (OpenSpec.ofChange fnExactConstantsSpec)

/-- ITS FALSE NEIGHBOUR: 'it returns false'. Refute it at one input. -/
def fnExactConstantsWrong : ChangeSpec := { name := "fnExactConstants", fn := fun _ => fun
  | [] => { results := [.lit (.bool false)], args := [] }
  | _ => none }
def FnExactConstantsWrongFalsely : Prop := fnExactConstantsRow.holds Try.pinned (OpenSpec.ofChange fnExactConstantsWrong)

/-- 'laws.FnExactGoodSign': WHATEVER THE INPUT: true; the input reads as it did. -/
def fnExactGoodSignSpec : ChangeSpec := { name := "fnExactGoodSign", fn := fun _ => fun
  | [d] => { results := [.lit (.bool true)], args := [d] }
  | _ => none }
def fnExactGoodSignRow : OpenClaim := { program := "ytbekhijknpgbbaa", sum := "fb268fc0c0504f4a80ea7de3057018408eb546e68f5c41f2b4f0e3c3f194cfe0", func := "loop.example/g00682/laws.FnExactGoodSign", spec := "fnExactGoodSign", unfollowed := true, recurses := true, apart := false }
def FnExactGoodSignSaid : Prop := fnExactGoodSignRow.holds Try.pinned (OpenSpec.ofChange fnExactGoodSignSpec)

/-- ITS FALSE NEIGHBOUR: 'it returns false'. Refute it at one input. -/
def fnExactGoodSignWrong : ChangeSpec := { name := "fnExactGoodSign", fn := fun _ => fun
  | [d] => { results := [.lit (.bool false)], args := [d] }
  | _ => none }
def FnExactGoodSignWrongFalsely : Prop := fnExactGoodSignRow.holds Try.pinned (OpenSpec.ofChange fnExactGoodSignWrong)

/-- 'laws.FnExactLeastGround': WHATEVER THE INPUT: true; the input reads as it did. -/
def fnExactLeastGroundSpec : ChangeSpec := { name := "fnExactLeastGround", fn := fun _ => fun
  | [d] => { results := [.lit (.bool true)], args := [d] }
  | _ => none }
def fnExactLeastGroundRow : OpenClaim := { program := "ytbekhijknpgbbaa", sum := "fb268fc0c0504f4a80ea7de3057018408eb546e68f5c41f2b4f0e3c3f194cfe0", func := "loop.example/g00682/laws.FnExactLeastGround", spec := "fnExactLeastGround", unfollowed := true, recurses := true, apart := false }
def FnExactLeastGroundSaid : Prop := fnExactLeastGroundRow.holds Try.pinned (OpenSpec.ofChange fnExactLeastGroundSpec)

/-- ITS FALSE NEIGHBOUR: 'it returns false'. Refute it at one input. -/
def fnExactLeastGroundWrong : ChangeSpec := { name := "fnExactLeastGround", fn := fun _ => fun
  | [d] => { results := [.lit (.bool false)], args := [d] }
  | _ => none }
def FnExactLeastGroundWrongFalsely : Prop := fnExactLeastGroundRow.holds Try.pinned (OpenSpec.ofChange fnExactLeastGroundWrong)

/-- 'laws.FnExactGoodTerm': WHATEVER THE INPUT: true; the input reads as it did. -/
def fnExactGoodTermSpec : ChangeSpec := { name := "fnExactGoodTerm", fn := fun _ => fun
  | [d1, d2] => { results := [.lit (.bool true)], args := [d1, d2] }
  | _ => none }
def fnExactGoodTermRow : OpenClaim := { program := "ytbekhijknpgbbaa", sum := "fb268fc0c0504f4a80ea7de3057018408eb546e68f5c41f2b4f0e3c3f194cfe0", func := "loop.example/g00682/laws.FnExactGoodTerm", spec := "fnExactGoodTerm", unfollowed := true, recurses := true, apart := false }
def FnExactGoodTermSaid : Prop := fnExactGoodTermRow.holds Try.pinned (OpenSpec.ofChange fnExactGoodTermSpec)

/-- ITS FALSE NEIGHBOUR: 'it returns false'. Refute it at one input. -/
def fnExactGoodTermWrong : ChangeSpec := { name := "fnExactGoodTerm", fn := fun _ => fun
  | [d1, d2] => { results := [.lit (.bool false)], args := [d1, d2] }
  | _ => none }
def FnExactGoodTermWrongFalsely : Prop := fnExactGoodTermRow.holds Try.pinned (OpenSpec.ofChange fnExactGoodTermWrong)

/-- 'laws.FnExactEndOf': WHATEVER THE INPUT: true; the input reads as it did. -/
def fnExactEndOfSpec : ChangeSpec := { name := "fnExactEndOf", fn := fun _ => fun
  | [d1, d2, d3] => { results := [.lit (.bool true)], args := [d1, d2, d3] }
  | _ => none }
def fnExactEndOfRow : OpenClaim := { program := "ytbekhijknpgbbaa", sum := "fb268fc0c0504f4a80ea7de3057018408eb546e68f5c41f2b4f0e3c3f194cfe0", func := "loop.example/g00682/laws.FnExactEndOf", spec := "fnExactEndOf", unfollowed := true, recurses := true, apart := false }
def FnExactEndOfSaid : Prop := fnExactEndOfRow.holds Try.pinned (OpenSpec.ofChange fnExactEndOfSpec)

/-- ITS FALSE NEIGHBOUR: 'it returns false'. Refute it at one input. -/
def fnExactEndOfWrong : ChangeSpec := { name := "fnExactEndOf", fn := fun _ => fun
  | [d1, d2, d3] => { results := [.lit (.bool false)], args := [d1, d2, d3] }
  | _ => none }
def FnExactEndOfWrongFalsely : Prop := fnExactEndOfRow.holds Try.pinned (OpenSpec.ofChange fnExactEndOfWrong)

/-- 'laws.FnExactCountOf': WHATEVER THE INPUT: true; the input reads as it did. -/
def fnExactCountOfSpec : ChangeSpec := { name := "fnExactCountOf", fn := fun _ => fun
  | [d1, d2, d3] => { results := [.lit (.bool true)], args := [d1, d2, d3] }
  | _ => none }
def fnExactCountOfRow : OpenClaim := { program := "ytbekhijknpgbbaa", sum := "fb268fc0c0504f4a80ea7de3057018408eb546e68f5c41f2b4f0e3c3f194cfe0", func := "loop.example/g00682/laws.FnExactCountOf", spec := "fnExactCountOf", unfollowed := true, recurses := true, apart := false }
def FnExactCountOfSaid : Prop := fnExactCountOfRow.holds Try.pinned (OpenSpec.ofChange fnExactCountOfSpec)

/-- ITS FALSE NEIGHBOUR: 'it returns false'. Refute it at one input. -/
def fnExactCountOfWrong : ChangeSpec := { name := "fnExactCountOf", fn := fun _ => fun
  | [d1, d2, d3] => { results := [.lit (.bool false)], args := [d1, d2, d3] }
  | _ => none }
def FnExactCountOfWrongFalsely : Prop := fnExactCountOfRow.holds Try.pinned (OpenSpec.ofChange fnExactCountOfWrong)

/-- 'laws.FnExactGoodSubst': WHATEVER THE INPUT: true; the input reads as it did. -/
def fnExactGoodSubstSpec : ChangeSpec := { name := "fnExactGoodSubst", fn := fun _ => fun
  | [d1, d2] => { results := [.lit (.bool true)], args := [d1, d2] }
  | _ => none }
def fnExactGoodSubstRow : OpenClaim := { program := "ytbekhijknpgbbaa", sum := "fb268fc0c0504f4a80ea7de3057018408eb546e68f5c41f2b4f0e3c3f194cfe0", func := "loop.example/g00682/laws.FnExactGoodSubst", spec := "fnExactGoodSubst", unfollowed := true, recurses := true, apart := false }
def FnExactGoodSubstSaid : Prop := fnExactGoodSubstRow.holds Try.pinned (OpenSpec.ofChange fnExactGoodSubstSpec)

/-- ITS FALSE NEIGHBOUR: 'it returns false'. Refute it at one input. -/
def fnExactGoodSubstWrong : ChangeSpec := { name := "fnExactGoodSubst", fn := fun _ => fun
  | [d1, d2] => { results := [.lit (.bool false)], args := [d1, d2] }
  | _ => none }
def FnExactGoodSubstWrongFalsely : Prop := fnExactGoodSubstRow.holds Try.pinned (OpenSpec.ofChange fnExactGoodSubstWrong)

/-- 'laws.FnExactDepthOf': WHATEVER THE INPUT: true; the input reads as it did. -/
def fnExactDepthOfSpec : ChangeSpec := { name := "fnExactDepthOf", fn := fun _ => fun
  | [d1, d2] => { results := [.lit (.bool true)], args := [d1, d2] }
  | _ => none }
def fnExactDepthOfRow : OpenClaim := { program := "ytbekhijknpgbbaa", sum := "fb268fc0c0504f4a80ea7de3057018408eb546e68f5c41f2b4f0e3c3f194cfe0", func := "loop.example/g00682/laws.FnExactDepthOf", spec := "fnExactDepthOf", unfollowed := true, recurses := true, apart := false }
def FnExactDepthOfSaid : Prop := fnExactDepthOfRow.holds Try.pinned (OpenSpec.ofChange fnExactDepthOfSpec)

/-- ITS FALSE NEIGHBOUR: 'it returns false'. Refute it at one input. -/
def fnExactDepthOfWrong : ChangeSpec := { name := "fnExactDepthOf", fn := fun _ => fun
  | [d1, d2] => { results := [.lit (.bool false)], args := [d1, d2] }
  | _ => none }
def FnExactDepthOfWrongFalsely : Prop := fnExactDepthOfRow.holds Try.pinned (OpenSpec.ofChange fnExactDepthOfWrong)

/-- 'laws.FnExactPartAt': WHATEVER THE INPUT: true; the input reads as it did. -/
def fnExactPartAtSpec : ChangeSpec := { name := "fnExactPartAt", fn := fun _ => fun
  | [d1, d2, d3] => { results := [.lit (.bool true)], args := [d1, d2, d3] }
  | _ => none }
def fnExactPartAtRow : OpenClaim := { program := "ytbekhijknpgbbaa", sum := "fb268fc0c0504f4a80ea7de3057018408eb546e68f5c41f2b4f0e3c3f194cfe0", func := "loop.example/g00682/laws.FnExactPartAt", spec := "fnExactPartAt", unfollowed := true, recurses := true, apart := false }
def FnExactPartAtSaid : Prop := fnExactPartAtRow.holds Try.pinned (OpenSpec.ofChange fnExactPartAtSpec)

/-- ITS FALSE NEIGHBOUR: 'it returns false'. Refute it at one input. -/
def fnExactPartAtWrong : ChangeSpec := { name := "fnExactPartAt", fn := fun _ => fun
  | [d1, d2, d3] => { results := [.lit (.bool false)], args := [d1, d2, d3] }
  | _ => none }
def FnExactPartAtWrongFalsely : Prop := fnExactPartAtRow.holds Try.pinned (OpenSpec.ofChange fnExactPartAtWrong)

/-- 'laws.FnExactArgsAt': WHATEVER THE INPUT: true; the input reads as it did. -/
def fnExactArgsAtSpec : ChangeSpec := { name := "fnExactArgsAt", fn := fun _ => fun
  | [d1, d2, d3] => { results := [.lit (.bool true)], args := [d1, d2, d3] }
  | _ => none }
def fnExactArgsAtRow : OpenClaim := { program := "ytbekhijknpgbbaa", sum := "fb268fc0c0504f4a80ea7de3057018408eb546e68f5c41f2b4f0e3c3f194cfe0", func := "loop.example/g00682/laws.FnExactArgsAt", spec := "fnExactArgsAt", unfollowed := true, recurses := true, apart := false }
def FnExactArgsAtSaid : Prop := fnExactArgsAtRow.holds Try.pinned (OpenSpec.ofChange fnExactArgsAtSpec)

/-- ITS FALSE NEIGHBOUR: 'it returns false'. Refute it at one input. -/
def fnExactArgsAtWrong : ChangeSpec := { name := "fnExactArgsAt", fn := fun _ => fun
  | [d1, d2, d3] => { results := [.lit (.bool false)], args := [d1, d2, d3] }
  | _ => none }
def FnExactArgsAtWrongFalsely : Prop := fnExactArgsAtRow.holds Try.pinned (OpenSpec.ofChange fnExactArgsAtWrong)

/-- 'laws.FnExactWeighsMore': WHATEVER THE INPUT: true; the input reads as it did. -/
def fnExactWeighsMoreSpec : ChangeSpec := { name := "fnExactWeighsMore", fn := fun _ => fun
  | [d1, d2, d3] => { results := [.lit (.bool true)], args := [d1, d2, d3] }
  | _ => none }
def fnExactWeighsMoreRow : OpenClaim := { program := "ytbekhijknpgbbaa", sum := "fb268fc0c0504f4a80ea7de3057018408eb546e68f5c41f2b4f0e3c3f194cfe0", func := "loop.example/g00682/laws.FnExactWeighsMore", spec := "fnExactWeighsMore", unfollowed := true, recurses := true, apart := false }
def FnExactWeighsMoreSaid : Prop := fnExactWeighsMoreRow.holds Try.pinned (OpenSpec.ofChange fnExactWeighsMoreSpec)

/-- ITS FALSE NEIGHBOUR: 'it returns false'. Refute it at one input. -/
def fnExactWeighsMoreWrong : ChangeSpec := { name := "fnExactWeighsMore", fn := fun _ => fun
  | [d1, d2, d3] => { results := [.lit (.bool false)], args := [d1, d2, d3] }
  | _ => none }
def FnExactWeighsMoreWrongFalsely : Prop := fnExactWeighsMoreRow.holds Try.pinned (OpenSpec.ofChange fnExactWeighsMoreWrong)

/-- 'laws.FnExactShiftVars': WHATEVER THE INPUT: true; the input reads as it did. -/
def fnExactShiftVarsSpec : ChangeSpec := { name := "fnExactShiftVars", fn := fun _ => fun
  | [d1, d2, d3] => { results := [.lit (.bool true)], args := [d1, d2, d3] }
  | _ => none }
def fnExactShiftVarsRow : OpenClaim := { program := "ytbekhijknpgbbaa", sum := "fb268fc0c0504f4a80ea7de3057018408eb546e68f5c41f2b4f0e3c3f194cfe0", func := "loop.example/g00682/laws.FnExactShiftVars", spec := "fnExactShiftVars", unfollowed := true, recurses := true, apart := false }
def FnExactShiftVarsSaid : Prop := fnExactShiftVarsRow.holds Try.pinned (OpenSpec.ofChange fnExactShiftVarsSpec)

/-- ITS FALSE NEIGHBOUR: 'it returns false'. Refute it at one input. -/
def fnExactShiftVarsWrong : ChangeSpec := { name := "fnExactShiftVars", fn := fun _ => fun
  | [d1, d2, d3] => { results := [.lit (.bool false)], args := [d1, d2, d3] }
  | _ => none }
def FnExactShiftVarsWrongFalsely : Prop := fnExactShiftVarsRow.holds Try.pinned (OpenSpec.ofChange fnExactShiftVarsWrong)

/-- 'laws.FnExactVarsOf': WHATEVER THE INPUT: true; the input reads as it did. -/
def fnExactVarsOfSpec : ChangeSpec := { name := "fnExactVarsOf", fn := fun _ => fun
  | [d1, d2] => { results := [.lit (.bool true)], args := [d1, d2] }
  | _ => none }
def fnExactVarsOfRow : OpenClaim := { program := "ytbekhijknpgbbaa", sum := "fb268fc0c0504f4a80ea7de3057018408eb546e68f5c41f2b4f0e3c3f194cfe0", func := "loop.example/g00682/laws.FnExactVarsOf", spec := "fnExactVarsOf", unfollowed := true, recurses := true, apart := false }
def FnExactVarsOfSaid : Prop := fnExactVarsOfRow.holds Try.pinned (OpenSpec.ofChange fnExactVarsOfSpec)

/-- ITS FALSE NEIGHBOUR: 'it returns false'. Refute it at one input. -/
def fnExactVarsOfWrong : ChangeSpec := { name := "fnExactVarsOf", fn := fun _ => fun
  | [d1, d2] => { results := [.lit (.bool false)], args := [d1, d2] }
  | _ => none }
def FnExactVarsOfWrongFalsely : Prop := fnExactVarsOfRow.holds Try.pinned (OpenSpec.ofChange fnExactVarsOfWrong)

/-- 'laws.FnExactReplaceAt': WHATEVER THE INPUT: true; the input reads as it did. -/
def fnExactReplaceAtSpec : ChangeSpec := { name := "fnExactReplaceAt", fn := fun _ => fun
  | [d1, d2, d3, d4] => { results := [.lit (.bool true)], args := [d1, d2, d3, d4] }
  | _ => none }
def fnExactReplaceAtRow : OpenClaim := { program := "ytbekhijknpgbbaa", sum := "fb268fc0c0504f4a80ea7de3057018408eb546e68f5c41f2b4f0e3c3f194cfe0", func := "loop.example/g00682/laws.FnExactReplaceAt", spec := "fnExactReplaceAt", unfollowed := true, recurses := true, apart := false }
def FnExactReplaceAtSaid : Prop := fnExactReplaceAtRow.holds Try.pinned (OpenSpec.ofChange fnExactReplaceAtSpec)

/-- ITS FALSE NEIGHBOUR: 'it returns false'. Refute it at one input. -/
def fnExactReplaceAtWrong : ChangeSpec := { name := "fnExactReplaceAt", fn := fun _ => fun
  | [d1, d2, d3, d4] => { results := [.lit (.bool false)], args := [d1, d2, d3, d4] }
  | _ => none }
def FnExactReplaceAtWrongFalsely : Prop := fnExactReplaceAtRow.holds Try.pinned (OpenSpec.ofChange fnExactReplaceAtWrong)

/-- 'laws.FnExactSameUpTo': WHATEVER THE INPUT: true; the input reads as it did. -/
def fnExactSameUpToSpec : ChangeSpec := { name := "fnExactSameUpTo", fn := fun _ => fun
  | [d1, d2, d3] => { results := [.lit (.bool true)], args := [d1, d2, d3] }
  | _ => none }
def fnExactSameUpToRow : OpenClaim := { program := "ytbekhijknpgbbaa", sum := "fb268fc0c0504f4a80ea7de3057018408eb546e68f5c41f2b4f0e3c3f194cfe0", func := "loop.example/g00682/laws.FnExactSameUpTo", spec := "fnExactSameUpTo", unfollowed := true, recurses := true, apart := false }
def FnExactSameUpToSaid : Prop := fnExactSameUpToRow.holds Try.pinned (OpenSpec.ofChange fnExactSameUpToSpec)

/-- ITS FALSE NEIGHBOUR: 'it returns false'. Refute it at one input. -/
def fnExactSameUpToWrong : ChangeSpec := { name := "fnExactSameUpTo", fn := fun _ => fun
  | [d1, d2, d3] => { results := [.lit (.bool false)], args := [d1, d2, d3] }
  | _ => none }
def FnExactSameUpToWrongFalsely : Prop := fnExactSameUpToRow.holds Try.pinned (OpenSpec.ofChange fnExactSameUpToWrong)

/-- 'laws.FnExactReadTerm': WHATEVER THE INPUT: true; the input reads as it did. -/
def fnExactReadTermSpec : ChangeSpec := { name := "fnExactReadTerm", fn := fun _ => fun
  | [d1, d2] => { results := [.lit (.bool true)], args := [d1, d2] }
  | _ => none }
def fnExactReadTermRow : OpenClaim := { program := "ytbekhijknpgbbaa", sum := "fb268fc0c0504f4a80ea7de3057018408eb546e68f5c41f2b4f0e3c3f194cfe0", func := "loop.example/g00682/laws.FnExactReadTerm", spec := "fnExactReadTerm", unfollowed := true, recurses := true, apart := false }
def FnExactReadTermSaid : Prop := fnExactReadTermRow.holds Try.pinned (OpenSpec.ofChange fnExactReadTermSpec)

/-- ITS FALSE NEIGHBOUR: 'it returns false'. Refute it at one input. -/
def fnExactReadTermWrong : ChangeSpec := { name := "fnExactReadTerm", fn := fun _ => fun
  | [d1, d2] => { results := [.lit (.bool false)], args := [d1, d2] }
  | _ => none }
def FnExactReadTermWrongFalsely : Prop := fnExactReadTermRow.holds Try.pinned (OpenSpec.ofChange fnExactReadTermWrong)

/-- 'laws.FnExactApply': WHATEVER THE INPUT: true; the input reads as it did. -/
def fnExactApplySpec : ChangeSpec := { name := "fnExactApply", fn := fun _ => fun
  | [d1, d2, d3] => { results := [.lit (.bool true)], args := [d1, d2, d3] }
  | _ => none }
def fnExactApplyRow : OpenClaim := { program := "ytbekhijknpgbbaa", sum := "fb268fc0c0504f4a80ea7de3057018408eb546e68f5c41f2b4f0e3c3f194cfe0", func := "loop.example/g00682/laws.FnExactApply", spec := "fnExactApply", unfollowed := true, recurses := true, apart := false }
def FnExactApplySaid : Prop := fnExactApplyRow.holds Try.pinned (OpenSpec.ofChange fnExactApplySpec)

/-- ITS FALSE NEIGHBOUR: 'it returns false'. Refute it at one input. -/
def fnExactApplyWrong : ChangeSpec := { name := "fnExactApply", fn := fun _ => fun
  | [d1, d2, d3] => { results := [.lit (.bool false)], args := [d1, d2, d3] }
  | _ => none }
def FnExactApplyWrongFalsely : Prop := fnExactApplyRow.holds Try.pinned (OpenSpec.ofChange fnExactApplyWrong)

/-- 'laws.FnExactIsUnifier': WHATEVER THE INPUT: true; the input reads as it did. -/
def fnExactIsUnifierSpec : ChangeSpec := { name := "fnExactIsUnifier", fn := fun _ => fun
  | [d1, d2, d3, d4] => { results := [.lit (.bool true)], args := [d1, d2, d3, d4] }
  | _ => none }
def fnExactIsUnifierRow : OpenClaim := { program := "ytbekhijknpgbbaa", sum := "fb268fc0c0504f4a80ea7de3057018408eb546e68f5c41f2b4f0e3c3f194cfe0", func := "loop.example/g00682/laws.FnExactIsUnifier", spec := "fnExactIsUnifier", unfollowed := true, recurses := true, apart := false }
def FnExactIsUnifierSaid : Prop := fnExactIsUnifierRow.holds Try.pinned (OpenSpec.ofChange fnExactIsUnifierSpec)

/-- ITS FALSE NEIGHBOUR: 'it returns false'. Refute it at one input. -/
def fnExactIsUnifierWrong : ChangeSpec := { name := "fnExactIsUnifier", fn := fun _ => fun
  | [d1, d2, d3, d4] => { results := [.lit (.bool false)], args := [d1, d2, d3, d4] }
  | _ => none }
def FnExactIsUnifierWrongFalsely : Prop := fnExactIsUnifierRow.holds Try.pinned (OpenSpec.ofChange fnExactIsUnifierWrong)

/-- 'laws.FnExactRenameOf': WHATEVER THE INPUT: true; the input reads as it did. -/
def fnExactRenameOfSpec : ChangeSpec := { name := "fnExactRenameOf", fn := fun _ => fun
  | [d1, d2] => { results := [.lit (.bool true)], args := [d1, d2] }
  | _ => none }
def fnExactRenameOfRow : OpenClaim := { program := "ytbekhijknpgbbaa", sum := "fb268fc0c0504f4a80ea7de3057018408eb546e68f5c41f2b4f0e3c3f194cfe0", func := "loop.example/g00682/laws.FnExactRenameOf", spec := "fnExactRenameOf", unfollowed := true, recurses := true, apart := false }
def FnExactRenameOfSaid : Prop := fnExactRenameOfRow.holds Try.pinned (OpenSpec.ofChange fnExactRenameOfSpec)

/-- ITS FALSE NEIGHBOUR: 'it returns false'. Refute it at one input. -/
def fnExactRenameOfWrong : ChangeSpec := { name := "fnExactRenameOf", fn := fun _ => fun
  | [d1, d2] => { results := [.lit (.bool false)], args := [d1, d2] }
  | _ => none }
def FnExactRenameOfWrongFalsely : Prop := fnExactRenameOfRow.holds Try.pinned (OpenSpec.ofChange fnExactRenameOfWrong)

/-- 'laws.FnExactCompareTerms': WHATEVER THE INPUT: true; the input reads as it did. -/
def fnExactCompareTermsSpec : ChangeSpec := { name := "fnExactCompareTerms", fn := fun _ => fun
  | [d1, d2, d3] => { results := [.lit (.bool true)], args := [d1, d2, d3] }
  | _ => none }
def fnExactCompareTermsRow : OpenClaim := { program := "ytbekhijknpgbbaa", sum := "fb268fc0c0504f4a80ea7de3057018408eb546e68f5c41f2b4f0e3c3f194cfe0", func := "loop.example/g00682/laws.FnExactCompareTerms", spec := "fnExactCompareTerms", unfollowed := true, recurses := true, apart := false }
def FnExactCompareTermsSaid : Prop := fnExactCompareTermsRow.holds Try.pinned (OpenSpec.ofChange fnExactCompareTermsSpec)

/-- ITS FALSE NEIGHBOUR: 'it returns false'. Refute it at one input. -/
def fnExactCompareTermsWrong : ChangeSpec := { name := "fnExactCompareTerms", fn := fun _ => fun
  | [d1, d2, d3] => { results := [.lit (.bool false)], args := [d1, d2, d3] }
  | _ => none }
def FnExactCompareTermsWrongFalsely : Prop := fnExactCompareTermsRow.holds Try.pinned (OpenSpec.ofChange fnExactCompareTermsWrong)

/-- 'laws.FnExactIsFalling': WHATEVER THE INPUT: true; the input reads as it did. -/
def fnExactIsFallingSpec : ChangeSpec := { name := "fnExactIsFalling", fn := fun _ => fun
  | [d1, d2] => { results := [.lit (.bool true)], args := [d1, d2] }
  | _ => none }
def fnExactIsFallingRow : OpenClaim := { program := "ytbekhijknpgbbaa", sum := "fb268fc0c0504f4a80ea7de3057018408eb546e68f5c41f2b4f0e3c3f194cfe0", func := "loop.example/g00682/laws.FnExactIsFalling", spec := "fnExactIsFalling", unfollowed := true, recurses := true, apart := false }
def FnExactIsFallingSaid : Prop := fnExactIsFallingRow.holds Try.pinned (OpenSpec.ofChange fnExactIsFallingSpec)

/-- ITS FALSE NEIGHBOUR: 'it returns false'. Refute it at one input. -/
def fnExactIsFallingWrong : ChangeSpec := { name := "fnExactIsFalling", fn := fun _ => fun
  | [d1, d2] => { results := [.lit (.bool false)], args := [d1, d2] }
  | _ => none }
def FnExactIsFallingWrongFalsely : Prop := fnExactIsFallingRow.holds Try.pinned (OpenSpec.ofChange fnExactIsFallingWrong)

/-- 'laws.FnExactCompose': WHATEVER THE INPUT: true; the input reads as it did. -/
def fnExactComposeSpec : ChangeSpec := { name := "fnExactCompose", fn := fun _ => fun
  | [d1, d2, d3] => { results := [.lit (.bool true)], args := [d1, d2, d3] }
  | _ => none }
def fnExactComposeRow : OpenClaim := { program := "ytbekhijknpgbbaa", sum := "fb268fc0c0504f4a80ea7de3057018408eb546e68f5c41f2b4f0e3c3f194cfe0", func := "loop.example/g00682/laws.FnExactCompose", spec := "fnExactCompose", unfollowed := true, recurses := true, apart := false }
def FnExactComposeSaid : Prop := fnExactComposeRow.holds Try.pinned (OpenSpec.ofChange fnExactComposeSpec)

/-- ITS FALSE NEIGHBOUR: 'it returns false'. Refute it at one input. -/
def fnExactComposeWrong : ChangeSpec := { name := "fnExactCompose", fn := fun _ => fun
  | [d1, d2, d3] => { results := [.lit (.bool false)], args := [d1, d2, d3] }
  | _ => none }
def FnExactComposeWrongFalsely : Prop := fnExactComposeRow.holds Try.pinned (OpenSpec.ofChange fnExactComposeWrong)

/-- 'laws.FnExactMatch': WHATEVER THE INPUT: true; the input reads as it did. -/
def fnExactMatchSpec : ChangeSpec := { name := "fnExactMatch", fn := fun _ => fun
  | [d1, d2, d3] => { results := [.lit (.bool true)], args := [d1, d2, d3] }
  | _ => none }
def fnExactMatchRow : OpenClaim := { program := "ytbekhijknpgbbaa", sum := "fb268fc0c0504f4a80ea7de3057018408eb546e68f5c41f2b4f0e3c3f194cfe0", func := "loop.example/g00682/laws.FnExactMatch", spec := "fnExactMatch", unfollowed := true, recurses := true, apart := false }
def FnExactMatchSaid : Prop := fnExactMatchRow.holds Try.pinned (OpenSpec.ofChange fnExactMatchSpec)

/-- ITS FALSE NEIGHBOUR: 'it returns false'. Refute it at one input. -/
def fnExactMatchWrong : ChangeSpec := { name := "fnExactMatch", fn := fun _ => fun
  | [d1, d2, d3] => { results := [.lit (.bool false)], args := [d1, d2, d3] }
  | _ => none }
def FnExactMatchWrongFalsely : Prop := fnExactMatchRow.holds Try.pinned (OpenSpec.ofChange fnExactMatchWrong)

/-- 'laws.FnExactUnify': WHATEVER THE INPUT: true; the input reads as it did. -/
def fnExactUnifySpec : ChangeSpec := { name := "fnExactUnify", fn := fun _ => fun
  | [d1, d2, d3] => { results := [.lit (.bool true)], args := [d1, d2, d3] }
  | _ => none }
def fnExactUnifyRow : OpenClaim := { program := "ytbekhijknpgbbaa", sum := "fb268fc0c0504f4a80ea7de3057018408eb546e68f5c41f2b4f0e3c3f194cfe0", func := "loop.example/g00682/laws.FnExactUnify", spec := "fnExactUnify", unfollowed := true, recurses := true, apart := false }
def FnExactUnifySaid : Prop := fnExactUnifyRow.holds Try.pinned (OpenSpec.ofChange fnExactUnifySpec)

/-- ITS FALSE NEIGHBOUR: 'it returns false'. Refute it at one input. -/
def fnExactUnifyWrong : ChangeSpec := { name := "fnExactUnify", fn := fun _ => fun
  | [d1, d2, d3] => { results := [.lit (.bool false)], args := [d1, d2, d3] }
  | _ => none }
def FnExactUnifyWrongFalsely : Prop := fnExactUnifyRow.holds Try.pinned (OpenSpec.ofChange fnExactUnifyWrong)

/-- 'laws.FnExactCompareLists': WHATEVER THE INPUT: true; the input reads as it did. -/
def fnExactCompareListsSpec : ChangeSpec := { name := "fnExactCompareLists", fn := fun _ => fun
  | [d1, d2, d3] => { results := [.lit (.bool true)], args := [d1, d2, d3] }
  | _ => none }
def fnExactCompareListsRow : OpenClaim := { program := "ytbekhijknpgbbaa", sum := "fb268fc0c0504f4a80ea7de3057018408eb546e68f5c41f2b4f0e3c3f194cfe0", func := "loop.example/g00682/laws.FnExactCompareLists", spec := "fnExactCompareLists", unfollowed := true, recurses := true, apart := false }
def FnExactCompareListsSaid : Prop := fnExactCompareListsRow.holds Try.pinned (OpenSpec.ofChange fnExactCompareListsSpec)

/-- ITS FALSE NEIGHBOUR: 'it returns false'. Refute it at one input. -/
def fnExactCompareListsWrong : ChangeSpec := { name := "fnExactCompareLists", fn := fun _ => fun
  | [d1, d2, d3] => { results := [.lit (.bool false)], args := [d1, d2, d3] }
  | _ => none }
def FnExactCompareListsWrongFalsely : Prop := fnExactCompareListsRow.holds Try.pinned (OpenSpec.ofChange fnExactCompareListsWrong)

/- THE SECOND FORM. 'bulk': how many values and letters a reading holds, each counted each time it is reached (what is shared counts as often as it is met; a slice's spare places count too). A statement '..UptoSaid' is the law's where the arguments, and the package variables that the reading takes, are together of bulk at most 1048576: NARROWER than '..Said'. Prove '..Said' where nothing that the law and all that it calls make is longer than what came in: it says more and counts as full. Else prove '..UptoSaid'. A law counts once. -/
mutual
def uptoBulk {H : Type} : DataW H → Nat
  | .lit (.string bytes) => bytes.length + 1
  | .lit _ => 1
  | .nil => 1
  | .ptr d => uptoBulk d + 1
  | .slice elems spare => uptoBulkAll elems + uptoBulkAll spare + 1
  | .agg parts => uptoBulkAll parts + 1
  | .iface _ d => uptoBulk d + 1
  | .map entries => uptoBulkEntries entries + 1
  | .held _ => 1
def uptoBulkAll {H : Type} : List (DataW H) → Nat
  | [] => 0
  | d :: r => uptoBulk d + uptoBulkAll r
def uptoBulkEntries {H : Type} : List (Lit × DataW H) → Nat
  | [] => 0
  | x :: r => uptoBulkEntry x + uptoBulkEntries r
def uptoBulkEntry {H : Type} : Lit × DataW H → Nat
  | (.string bytes, d) => bytes.length + uptoBulk d + 1
  | (_, d) => uptoBulk d + 1
 end
def uptoSmall : (H : Type) → List (DataW H) → Bool := fun _ ds => decide (uptoBulkAll ds ≤ 1048576)
def OpenSpec.upto (s : _root_.Go.ChangeSpec) : _root_.Go.OpenSpec := { _root_.Go.OpenSpec.ofChange s with cond := some uptoSmall }

/-- 'laws.FnExactConstants', WHERE WHAT IT READS IS OF BULK AT MOST 1048576: true; the input reads as it did. -/
def fnExactConstantsUptoRow : OpenClaim := { program := "ytbekhijknpgbbaa", sum := "fb268fc0c0504f4a80ea7de3057018408eb546e68f5c41f2b4f0e3c3f194cfe0", func := "loop.example/g00682/laws.FnExactConstants", spec := "fnExactConstants", apart := false, narrowed := true }
def FnExactConstantsUptoSaid : Prop := fnExactConstantsUptoRow.holds Try.pinned (OpenSpec.upto fnExactConstantsSpec)

/-- 'laws.FnExactGoodSign', WHERE WHAT IT READS IS OF BULK AT MOST 1048576: true; the input reads as it did. -/
def fnExactGoodSignUptoRow : OpenClaim := { program := "ytbekhijknpgbbaa", sum := "fb268fc0c0504f4a80ea7de3057018408eb546e68f5c41f2b4f0e3c3f194cfe0", func := "loop.example/g00682/laws.FnExactGoodSign", spec := "fnExactGoodSign", unfollowed := true, recurses := true, apart := false, narrowed := true }
def FnExactGoodSignUptoSaid : Prop := fnExactGoodSignUptoRow.holds Try.pinned (OpenSpec.upto fnExactGoodSignSpec)

/-- 'laws.FnExactLeastGround', WHERE WHAT IT READS IS OF BULK AT MOST 1048576: true; the input reads as it did. -/
def fnExactLeastGroundUptoRow : OpenClaim := { program := "ytbekhijknpgbbaa", sum := "fb268fc0c0504f4a80ea7de3057018408eb546e68f5c41f2b4f0e3c3f194cfe0", func := "loop.example/g00682/laws.FnExactLeastGround", spec := "fnExactLeastGround", unfollowed := true, recurses := true, apart := false, narrowed := true }
def FnExactLeastGroundUptoSaid : Prop := fnExactLeastGroundUptoRow.holds Try.pinned (OpenSpec.upto fnExactLeastGroundSpec)

/-- 'laws.FnExactGoodTerm', WHERE WHAT IT READS IS OF BULK AT MOST 1048576: true; the input reads as it did. -/
def fnExactGoodTermUptoRow : OpenClaim := { program := "ytbekhijknpgbbaa", sum := "fb268fc0c0504f4a80ea7de3057018408eb546e68f5c41f2b4f0e3c3f194cfe0", func := "loop.example/g00682/laws.FnExactGoodTerm", spec := "fnExactGoodTerm", unfollowed := true, recurses := true, apart := false, narrowed := true }
def FnExactGoodTermUptoSaid : Prop := fnExactGoodTermUptoRow.holds Try.pinned (OpenSpec.upto fnExactGoodTermSpec)

/-- 'laws.FnExactEndOf', WHERE WHAT IT READS IS OF BULK AT MOST 1048576: true; the input reads as it did. -/
def fnExactEndOfUptoRow : OpenClaim := { program := "ytbekhijknpgbbaa", sum := "fb268fc0c0504f4a80ea7de3057018408eb546e68f5c41f2b4f0e3c3f194cfe0", func := "loop.example/g00682/laws.FnExactEndOf", spec := "fnExactEndOf", unfollowed := true, recurses := true, apart := false, narrowed := true }
def FnExactEndOfUptoSaid : Prop := fnExactEndOfUptoRow.holds Try.pinned (OpenSpec.upto fnExactEndOfSpec)

/-- 'laws.FnExactCountOf', WHERE WHAT IT READS IS OF BULK AT MOST 1048576: true; the input reads as it did. -/
def fnExactCountOfUptoRow : OpenClaim := { program := "ytbekhijknpgbbaa", sum := "fb268fc0c0504f4a80ea7de3057018408eb546e68f5c41f2b4f0e3c3f194cfe0", func := "loop.example/g00682/laws.FnExactCountOf", spec := "fnExactCountOf", unfollowed := true, recurses := true, apart := false, narrowed := true }
def FnExactCountOfUptoSaid : Prop := fnExactCountOfUptoRow.holds Try.pinned (OpenSpec.upto fnExactCountOfSpec)

/-- 'laws.FnExactGoodSubst', WHERE WHAT IT READS IS OF BULK AT MOST 1048576: true; the input reads as it did. -/
def fnExactGoodSubstUptoRow : OpenClaim := { program := "ytbekhijknpgbbaa", sum := "fb268fc0c0504f4a80ea7de3057018408eb546e68f5c41f2b4f0e3c3f194cfe0", func := "loop.example/g00682/laws.FnExactGoodSubst", spec := "fnExactGoodSubst", unfollowed := true, recurses := true, apart := false, narrowed := true }
def FnExactGoodSubstUptoSaid : Prop := fnExactGoodSubstUptoRow.holds Try.pinned (OpenSpec.upto fnExactGoodSubstSpec)

/-- 'laws.FnExactDepthOf', WHERE WHAT IT READS IS OF BULK AT MOST 1048576: true; the input reads as it did. -/
def fnExactDepthOfUptoRow : OpenClaim := { program := "ytbekhijknpgbbaa", sum := "fb268fc0c0504f4a80ea7de3057018408eb546e68f5c41f2b4f0e3c3f194cfe0", func := "loop.example/g00682/laws.FnExactDepthOf", spec := "fnExactDepthOf", unfollowed := true, recurses := true, apart := false, narrowed := true }
def FnExactDepthOfUptoSaid : Prop := fnExactDepthOfUptoRow.holds Try.pinned (OpenSpec.upto fnExactDepthOfSpec)

/-- 'laws.FnExactPartAt', WHERE WHAT IT READS IS OF BULK AT MOST 1048576: true; the input reads as it did. -/
def fnExactPartAtUptoRow : OpenClaim := { program := "ytbekhijknpgbbaa", sum := "fb268fc0c0504f4a80ea7de3057018408eb546e68f5c41f2b4f0e3c3f194cfe0", func := "loop.example/g00682/laws.FnExactPartAt", spec := "fnExactPartAt", unfollowed := true, recurses := true, apart := false, narrowed := true }
def FnExactPartAtUptoSaid : Prop := fnExactPartAtUptoRow.holds Try.pinned (OpenSpec.upto fnExactPartAtSpec)

/-- 'laws.FnExactArgsAt', WHERE WHAT IT READS IS OF BULK AT MOST 1048576: true; the input reads as it did. -/
def fnExactArgsAtUptoRow : OpenClaim := { program := "ytbekhijknpgbbaa", sum := "fb268fc0c0504f4a80ea7de3057018408eb546e68f5c41f2b4f0e3c3f194cfe0", func := "loop.example/g00682/laws.FnExactArgsAt", spec := "fnExactArgsAt", unfollowed := true, recurses := true, apart := false, narrowed := true }
def FnExactArgsAtUptoSaid : Prop := fnExactArgsAtUptoRow.holds Try.pinned (OpenSpec.upto fnExactArgsAtSpec)

/-- 'laws.FnExactWeighsMore', WHERE WHAT IT READS IS OF BULK AT MOST 1048576: true; the input reads as it did. -/
def fnExactWeighsMoreUptoRow : OpenClaim := { program := "ytbekhijknpgbbaa", sum := "fb268fc0c0504f4a80ea7de3057018408eb546e68f5c41f2b4f0e3c3f194cfe0", func := "loop.example/g00682/laws.FnExactWeighsMore", spec := "fnExactWeighsMore", unfollowed := true, recurses := true, apart := false, narrowed := true }
def FnExactWeighsMoreUptoSaid : Prop := fnExactWeighsMoreUptoRow.holds Try.pinned (OpenSpec.upto fnExactWeighsMoreSpec)

/-- 'laws.FnExactShiftVars', WHERE WHAT IT READS IS OF BULK AT MOST 1048576: true; the input reads as it did. -/
def fnExactShiftVarsUptoRow : OpenClaim := { program := "ytbekhijknpgbbaa", sum := "fb268fc0c0504f4a80ea7de3057018408eb546e68f5c41f2b4f0e3c3f194cfe0", func := "loop.example/g00682/laws.FnExactShiftVars", spec := "fnExactShiftVars", unfollowed := true, recurses := true, apart := false, narrowed := true }
def FnExactShiftVarsUptoSaid : Prop := fnExactShiftVarsUptoRow.holds Try.pinned (OpenSpec.upto fnExactShiftVarsSpec)

/-- 'laws.FnExactVarsOf', WHERE WHAT IT READS IS OF BULK AT MOST 1048576: true; the input reads as it did. -/
def fnExactVarsOfUptoRow : OpenClaim := { program := "ytbekhijknpgbbaa", sum := "fb268fc0c0504f4a80ea7de3057018408eb546e68f5c41f2b4f0e3c3f194cfe0", func := "loop.example/g00682/laws.FnExactVarsOf", spec := "fnExactVarsOf", unfollowed := true, recurses := true, apart := false, narrowed := true }
def FnExactVarsOfUptoSaid : Prop := fnExactVarsOfUptoRow.holds Try.pinned (OpenSpec.upto fnExactVarsOfSpec)

/-- 'laws.FnExactReplaceAt', WHERE WHAT IT READS IS OF BULK AT MOST 1048576: true; the input reads as it did. -/
def fnExactReplaceAtUptoRow : OpenClaim := { program := "ytbekhijknpgbbaa", sum := "fb268fc0c0504f4a80ea7de3057018408eb546e68f5c41f2b4f0e3c3f194cfe0", func := "loop.example/g00682/laws.FnExactReplaceAt", spec := "fnExactReplaceAt", unfollowed := true, recurses := true, apart := false, narrowed := true }
def FnExactReplaceAtUptoSaid : Prop := fnExactReplaceAtUptoRow.holds Try.pinned (OpenSpec.upto fnExactReplaceAtSpec)

/-- 'laws.FnExactSameUpTo', WHERE WHAT IT READS IS OF BULK AT MOST 1048576: true; the input reads as it did. -/
def fnExactSameUpToUptoRow : OpenClaim := { program := "ytbekhijknpgbbaa", sum := "fb268fc0c0504f4a80ea7de3057018408eb546e68f5c41f2b4f0e3c3f194cfe0", func := "loop.example/g00682/laws.FnExactSameUpTo", spec := "fnExactSameUpTo", unfollowed := true, recurses := true, apart := false, narrowed := true }
def FnExactSameUpToUptoSaid : Prop := fnExactSameUpToUptoRow.holds Try.pinned (OpenSpec.upto fnExactSameUpToSpec)

/-- 'laws.FnExactReadTerm', WHERE WHAT IT READS IS OF BULK AT MOST 1048576: true; the input reads as it did. -/
def fnExactReadTermUptoRow : OpenClaim := { program := "ytbekhijknpgbbaa", sum := "fb268fc0c0504f4a80ea7de3057018408eb546e68f5c41f2b4f0e3c3f194cfe0", func := "loop.example/g00682/laws.FnExactReadTerm", spec := "fnExactReadTerm", unfollowed := true, recurses := true, apart := false, narrowed := true }
def FnExactReadTermUptoSaid : Prop := fnExactReadTermUptoRow.holds Try.pinned (OpenSpec.upto fnExactReadTermSpec)

/-- 'laws.FnExactApply', WHERE WHAT IT READS IS OF BULK AT MOST 1048576: true; the input reads as it did. -/
def fnExactApplyUptoRow : OpenClaim := { program := "ytbekhijknpgbbaa", sum := "fb268fc0c0504f4a80ea7de3057018408eb546e68f5c41f2b4f0e3c3f194cfe0", func := "loop.example/g00682/laws.FnExactApply", spec := "fnExactApply", unfollowed := true, recurses := true, apart := false, narrowed := true }
def FnExactApplyUptoSaid : Prop := fnExactApplyUptoRow.holds Try.pinned (OpenSpec.upto fnExactApplySpec)

/-- 'laws.FnExactIsUnifier', WHERE WHAT IT READS IS OF BULK AT MOST 1048576: true; the input reads as it did. -/
def fnExactIsUnifierUptoRow : OpenClaim := { program := "ytbekhijknpgbbaa", sum := "fb268fc0c0504f4a80ea7de3057018408eb546e68f5c41f2b4f0e3c3f194cfe0", func := "loop.example/g00682/laws.FnExactIsUnifier", spec := "fnExactIsUnifier", unfollowed := true, recurses := true, apart := false, narrowed := true }
def FnExactIsUnifierUptoSaid : Prop := fnExactIsUnifierUptoRow.holds Try.pinned (OpenSpec.upto fnExactIsUnifierSpec)

/-- 'laws.FnExactRenameOf', WHERE WHAT IT READS IS OF BULK AT MOST 1048576: true; the input reads as it did. -/
def fnExactRenameOfUptoRow : OpenClaim := { program := "ytbekhijknpgbbaa", sum := "fb268fc0c0504f4a80ea7de3057018408eb546e68f5c41f2b4f0e3c3f194cfe0", func := "loop.example/g00682/laws.FnExactRenameOf", spec := "fnExactRenameOf", unfollowed := true, recurses := true, apart := false, narrowed := true }
def FnExactRenameOfUptoSaid : Prop := fnExactRenameOfUptoRow.holds Try.pinned (OpenSpec.upto fnExactRenameOfSpec)

/-- 'laws.FnExactCompareTerms', WHERE WHAT IT READS IS OF BULK AT MOST 1048576: true; the input reads as it did. -/
def fnExactCompareTermsUptoRow : OpenClaim := { program := "ytbekhijknpgbbaa", sum := "fb268fc0c0504f4a80ea7de3057018408eb546e68f5c41f2b4f0e3c3f194cfe0", func := "loop.example/g00682/laws.FnExactCompareTerms", spec := "fnExactCompareTerms", unfollowed := true, recurses := true, apart := false, narrowed := true }
def FnExactCompareTermsUptoSaid : Prop := fnExactCompareTermsUptoRow.holds Try.pinned (OpenSpec.upto fnExactCompareTermsSpec)

/-- 'laws.FnExactIsFalling', WHERE WHAT IT READS IS OF BULK AT MOST 1048576: true; the input reads as it did. -/
def fnExactIsFallingUptoRow : OpenClaim := { program := "ytbekhijknpgbbaa", sum := "fb268fc0c0504f4a80ea7de3057018408eb546e68f5c41f2b4f0e3c3f194cfe0", func := "loop.example/g00682/laws.FnExactIsFalling", spec := "fnExactIsFalling", unfollowed := true, recurses := true, apart := false, narrowed := true }
def FnExactIsFallingUptoSaid : Prop := fnExactIsFallingUptoRow.holds Try.pinned (OpenSpec.upto fnExactIsFallingSpec)

/-- 'laws.FnExactCompose', WHERE WHAT IT READS IS OF BULK AT MOST 1048576: true; the input reads as it did. -/
def fnExactComposeUptoRow : OpenClaim := { program := "ytbekhijknpgbbaa", sum := "fb268fc0c0504f4a80ea7de3057018408eb546e68f5c41f2b4f0e3c3f194cfe0", func := "loop.example/g00682/laws.FnExactCompose", spec := "fnExactCompose", unfollowed := true, recurses := true, apart := false, narrowed := true }
def FnExactComposeUptoSaid : Prop := fnExactComposeUptoRow.holds Try.pinned (OpenSpec.upto fnExactComposeSpec)

/-- 'laws.FnExactMatch', WHERE WHAT IT READS IS OF BULK AT MOST 1048576: true; the input reads as it did. -/
def fnExactMatchUptoRow : OpenClaim := { program := "ytbekhijknpgbbaa", sum := "fb268fc0c0504f4a80ea7de3057018408eb546e68f5c41f2b4f0e3c3f194cfe0", func := "loop.example/g00682/laws.FnExactMatch", spec := "fnExactMatch", unfollowed := true, recurses := true, apart := false, narrowed := true }
def FnExactMatchUptoSaid : Prop := fnExactMatchUptoRow.holds Try.pinned (OpenSpec.upto fnExactMatchSpec)

/-- 'laws.FnExactUnify', WHERE WHAT IT READS IS OF BULK AT MOST 1048576: true; the input reads as it did. -/
def fnExactUnifyUptoRow : OpenClaim := { program := "ytbekhijknpgbbaa", sum := "fb268fc0c0504f4a80ea7de3057018408eb546e68f5c41f2b4f0e3c3f194cfe0", func := "loop.example/g00682/laws.FnExactUnify", spec := "fnExactUnify", unfollowed := true, recurses := true, apart := false, narrowed := true }
def FnExactUnifyUptoSaid : Prop := fnExactUnifyUptoRow.holds Try.pinned (OpenSpec.upto fnExactUnifySpec)

/-- 'laws.FnExactCompareLists', WHERE WHAT IT READS IS OF BULK AT MOST 1048576: true; the input reads as it did. -/
def fnExactCompareListsUptoRow : OpenClaim := { program := "ytbekhijknpgbbaa", sum := "fb268fc0c0504f4a80ea7de3057018408eb546e68f5c41f2b4f0e3c3f194cfe0", func := "loop.example/g00682/laws.FnExactCompareLists", spec := "fnExactCompareLists", unfollowed := true, recurses := true, apart := false, narrowed := true }
def FnExactCompareListsUptoSaid : Prop := fnExactCompareListsUptoRow.holds Try.pinned (OpenSpec.upto fnExactCompareListsSpec)

end Rows
end Go.Proofs.Ytbekhijknpgbbaa
