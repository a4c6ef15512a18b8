/-
  No cell of these rows narrows 'for every input' (looked for: loops, veiled, ifaces, maps, wideKeys, modest, calm, conditions, laid).
  DERIVED. THE GIVEN ROWS OF THIS SEAT. 21 by the template 'for every input the law returns true; each argument reads behind the call as it read before'; 0 by the template 'total and deterministic' (their statements: YtfbhlofifodkjaaTotals.lean).
  GIVEN WITH THE SEED: the statements are not yours to turn. If you find one false, say at which input.
  Laid BY PROGRAM, IN A SANDBOX (cutbox-rows.mjs): the forced cells as the released guide's own fill.sh prints them over the translation 9ca5efcf4bedb55e… (all of the seat's roots in one cut). By AI agents, Wed Nov 11 2026. No macro, syntax, notation, axiom, sorry.
-/
import Derived.Test.YtfbhlofifodkjaaChecked
import GoSem.Claim
import GoSem.ClaimJoined
import GoSem.ClaimMapViews
import Derived.JoinedTies
import Derived.KernelRfl
namespace Go.Proofs.Ytfbhlofifodkjaa
/- THE CELL 'sum', in the pinned program and in every row, IS THE sha256 OF THE DUMP (.gsa) THAT YtfbhlofifodkjaaProg.lean LOADS. Nothing in Lean hashes anything: it is a label: what it is worth is what the hold of that sum in a sandbox is worth. -/
noncomputable def Try.pinned : Pinned := { name := "ytfbhlofifodkjaa", sum := "9ca5efcf4bedb55ec8a32ed893462700387f5dfe2caef72583259b78b3db4486", checked := Try.checked }
namespace Rows
def none {H : Type} : Left H := { results := [], args := [] }

/-- 'laws.FnExactConstants': WHATEVER THE INPUT: true; the input reads as it did. -/
def fnExactConstantsSpec : ChangeSpec := { name := "fnExactConstants", fn := fun _ => fun
  | [] => { results := [.lit (.bool true)], args := [] }
  | _ => none }
def fnExactConstantsRow : OpenClaim := { program := "ytfbhlofifodkjaa", sum := "9ca5efcf4bedb55ec8a32ed893462700387f5dfe2caef72583259b78b3db4486", func := "loop.example/belfry/laws.FnExactConstants", spec := "fnExactConstants", apart := false }
def FnExactConstantsSaid : Prop := fnExactConstantsRow.holds Try.pinned (OpenSpec.ofChange fnExactConstantsSpec)

/-- ITS FALSE NEIGHBOUR: 'it returns false'. Refute it at one input. -/
def fnExactConstantsWrong : ChangeSpec := { name := "fnExactConstants", fn := fun _ => fun
  | [] => { results := [.lit (.bool false)], args := [] }
  | _ => none }
def FnExactConstantsWrongFalsely : Prop := fnExactConstantsRow.holds Try.pinned (OpenSpec.ofChange fnExactConstantsWrong)

/-- 'laws.FnExactTreeSplit': WHATEVER THE INPUT: true; the input reads as it did. -/
def fnExactTreeSplitSpec : ChangeSpec := { name := "fnExactTreeSplit", fn := fun _ => fun
  | [d] => { results := [.lit (.bool true)], args := [d] }
  | _ => none }
def fnExactTreeSplitRow : OpenClaim := { program := "ytfbhlofifodkjaa", sum := "9ca5efcf4bedb55ec8a32ed893462700387f5dfe2caef72583259b78b3db4486", func := "loop.example/belfry/laws.FnExactTreeSplit", spec := "fnExactTreeSplit", apart := false }
def FnExactTreeSplitSaid : Prop := fnExactTreeSplitRow.holds Try.pinned (OpenSpec.ofChange fnExactTreeSplitSpec)

/-- ITS FALSE NEIGHBOUR: 'it returns false'. Refute it at one input. -/
def fnExactTreeSplitWrong : ChangeSpec := { name := "fnExactTreeSplit", fn := fun _ => fun
  | [d] => { results := [.lit (.bool false)], args := [d] }
  | _ => none }
def FnExactTreeSplitWrongFalsely : Prop := fnExactTreeSplitRow.holds Try.pinned (OpenSpec.ofChange fnExactTreeSplitWrong)

/-- 'laws.FnExactWireName': WHATEVER THE INPUT: true; the input reads as it did. -/
def fnExactWireNameSpec : ChangeSpec := { name := "fnExactWireName", fn := fun _ => fun
  | [d] => { results := [.lit (.bool true)], args := [d] }
  | _ => none }
def fnExactWireNameRow : OpenClaim := { program := "ytfbhlofifodkjaa", sum := "9ca5efcf4bedb55ec8a32ed893462700387f5dfe2caef72583259b78b3db4486", func := "loop.example/belfry/laws.FnExactWireName", spec := "fnExactWireName", apart := false }
def FnExactWireNameSaid : Prop := fnExactWireNameRow.holds Try.pinned (OpenSpec.ofChange fnExactWireNameSpec)

/-- ITS FALSE NEIGHBOUR: 'it returns false'. Refute it at one input. -/
def fnExactWireNameWrong : ChangeSpec := { name := "fnExactWireName", fn := fun _ => fun
  | [d] => { results := [.lit (.bool false)], args := [d] }
  | _ => none }
def FnExactWireNameWrongFalsely : Prop := fnExactWireNameRow.holds Try.pinned (OpenSpec.ofChange fnExactWireNameWrong)

/-- 'laws.FnExactHashBytes': WHATEVER THE INPUT: true; the input reads as it did. -/
def fnExactHashBytesSpec : ChangeSpec := { name := "fnExactHashBytes", fn := fun _ => fun
  | [d] => { results := [.lit (.bool true)], args := [d] }
  | _ => none }
def fnExactHashBytesRow : OpenClaim := { program := "ytfbhlofifodkjaa", sum := "9ca5efcf4bedb55ec8a32ed893462700387f5dfe2caef72583259b78b3db4486", func := "loop.example/belfry/laws.FnExactHashBytes", spec := "fnExactHashBytes", named := ["encoding/binary.BigEndian"], apart := false }
def FnExactHashBytesSaid : Prop := fnExactHashBytesRow.holds Try.pinned (OpenSpec.ofChange fnExactHashBytesSpec)

/-- ITS FALSE NEIGHBOUR: 'it returns false'. Refute it at one input. -/
def fnExactHashBytesWrong : ChangeSpec := { name := "fnExactHashBytes", fn := fun _ => fun
  | [d] => { results := [.lit (.bool false)], args := [d] }
  | _ => none }
def FnExactHashBytesWrongFalsely : Prop := fnExactHashBytesRow.holds Try.pinned (OpenSpec.ofChange fnExactHashBytesWrong)

/-- 'laws.FnExactHashBack': WHATEVER THE INPUT: true; the input reads as it did. -/
def fnExactHashBackSpec : ChangeSpec := { name := "fnExactHashBack", fn := fun _ => fun
  | [d] => { results := [.lit (.bool true)], args := [d] }
  | _ => none }
def fnExactHashBackRow : OpenClaim := { program := "ytfbhlofifodkjaa", sum := "9ca5efcf4bedb55ec8a32ed893462700387f5dfe2caef72583259b78b3db4486", func := "loop.example/belfry/laws.FnExactHashBack", spec := "fnExactHashBack", unfollowed := true, recurses := true, named := ["encoding/binary.BigEndian"], apart := false }
def FnExactHashBackSaid : Prop := fnExactHashBackRow.holds Try.pinned (OpenSpec.ofChange fnExactHashBackSpec)

/-- ITS FALSE NEIGHBOUR: 'it returns false'. Refute it at one input. -/
def fnExactHashBackWrong : ChangeSpec := { name := "fnExactHashBack", fn := fun _ => fun
  | [d] => { results := [.lit (.bool false)], args := [d] }
  | _ => none }
def FnExactHashBackWrongFalsely : Prop := fnExactHashBackRow.holds Try.pinned (OpenSpec.ofChange fnExactHashBackWrong)

/-- 'laws.FnExactLeavesOk': WHATEVER THE INPUT: true; the input reads as it did. -/
def fnExactLeavesOkSpec : ChangeSpec := { name := "fnExactLeavesOk", fn := fun _ => fun
  | [d] => { results := [.lit (.bool true)], args := [d] }
  | _ => none }
def fnExactLeavesOkRow : OpenClaim := { program := "ytfbhlofifodkjaa", sum := "9ca5efcf4bedb55ec8a32ed893462700387f5dfe2caef72583259b78b3db4486", func := "loop.example/belfry/laws.FnExactLeavesOk", spec := "fnExactLeavesOk", apart := false }
def FnExactLeavesOkSaid : Prop := fnExactLeavesOkRow.holds Try.pinned (OpenSpec.ofChange fnExactLeavesOkSpec)

/-- ITS FALSE NEIGHBOUR: 'it returns false'. Refute it at one input. -/
def fnExactLeavesOkWrong : ChangeSpec := { name := "fnExactLeavesOk", fn := fun _ => fun
  | [d] => { results := [.lit (.bool false)], args := [d] }
  | _ => none }
def FnExactLeavesOkWrongFalsely : Prop := fnExactLeavesOkRow.holds Try.pinned (OpenSpec.ofChange fnExactLeavesOkWrong)

/-- 'laws.FnExactClashFirst': WHATEVER THE INPUT: true; the input reads as it did. -/
def fnExactClashFirstSpec : ChangeSpec := { name := "fnExactClashFirst", fn := fun _ => fun
  | [d1, d2] => { results := [.lit (.bool true)], args := [d1, d2] }
  | _ => none }
def fnExactClashFirstRow : OpenClaim := { program := "ytfbhlofifodkjaa", sum := "9ca5efcf4bedb55ec8a32ed893462700387f5dfe2caef72583259b78b3db4486", func := "loop.example/belfry/laws.FnExactClashFirst", spec := "fnExactClashFirst", apart := false }
def FnExactClashFirstSaid : Prop := fnExactClashFirstRow.holds Try.pinned (OpenSpec.ofChange fnExactClashFirstSpec)

/-- ITS FALSE NEIGHBOUR: 'it returns false'. Refute it at one input. -/
def fnExactClashFirstWrong : ChangeSpec := { name := "fnExactClashFirst", fn := fun _ => fun
  | [d1, d2] => { results := [.lit (.bool false)], args := [d1, d2] }
  | _ => none }
def FnExactClashFirstWrongFalsely : Prop := fnExactClashFirstRow.holds Try.pinned (OpenSpec.ofChange fnExactClashFirstWrong)

/-- 'laws.FnExactPeaksCount': WHATEVER THE INPUT: true; the input reads as it did. -/
def fnExactPeaksCountSpec : ChangeSpec := { name := "fnExactPeaksCount", fn := fun _ => fun
  | [d] => { results := [.lit (.bool true)], args := [d] }
  | _ => none }
def fnExactPeaksCountRow : OpenClaim := { program := "ytfbhlofifodkjaa", sum := "9ca5efcf4bedb55ec8a32ed893462700387f5dfe2caef72583259b78b3db4486", func := "loop.example/belfry/laws.FnExactPeaksCount", spec := "fnExactPeaksCount", apart := false }
def FnExactPeaksCountSaid : Prop := fnExactPeaksCountRow.holds Try.pinned (OpenSpec.ofChange fnExactPeaksCountSpec)

/-- ITS FALSE NEIGHBOUR: 'it returns false'. Refute it at one input. -/
def fnExactPeaksCountWrong : ChangeSpec := { name := "fnExactPeaksCount", fn := fun _ => fun
  | [d] => { results := [.lit (.bool false)], args := [d] }
  | _ => none }
def FnExactPeaksCountWrongFalsely : Prop := fnExactPeaksCountRow.holds Try.pinned (OpenSpec.ofChange fnExactPeaksCountWrong)

/-- 'laws.FnExactHashBlock': WHATEVER THE INPUT: true; the input reads as it did. -/
def fnExactHashBlockSpec : ChangeSpec := { name := "fnExactHashBlock", fn := fun _ => fun
  | [d1, d2] => { results := [.lit (.bool true)], args := [d1, d2] }
  | _ => none }
def fnExactHashBlockRow : OpenClaim := { program := "ytfbhlofifodkjaa", sum := "9ca5efcf4bedb55ec8a32ed893462700387f5dfe2caef72583259b78b3db4486", func := "loop.example/belfry/laws.FnExactHashBlock", spec := "fnExactHashBlock", apart := false }
def FnExactHashBlockSaid : Prop := fnExactHashBlockRow.holds Try.pinned (OpenSpec.ofChange fnExactHashBlockSpec)

/-- ITS FALSE NEIGHBOUR: 'it returns false'. Refute it at one input. -/
def fnExactHashBlockWrong : ChangeSpec := { name := "fnExactHashBlock", fn := fun _ => fun
  | [d1, d2] => { results := [.lit (.bool false)], args := [d1, d2] }
  | _ => none }
def FnExactHashBlockWrongFalsely : Prop := fnExactHashBlockRow.holds Try.pinned (OpenSpec.ofChange fnExactHashBlockWrong)

/-- 'laws.FnExactPathLen': WHATEVER THE INPUT: true; the input reads as it did. -/
def fnExactPathLenSpec : ChangeSpec := { name := "fnExactPathLen", fn := fun _ => fun
  | [d1, d2] => { results := [.lit (.bool true)], args := [d1, d2] }
  | _ => none }
def fnExactPathLenRow : OpenClaim := { program := "ytfbhlofifodkjaa", sum := "9ca5efcf4bedb55ec8a32ed893462700387f5dfe2caef72583259b78b3db4486", func := "loop.example/belfry/laws.FnExactPathLen", spec := "fnExactPathLen", apart := false }
def FnExactPathLenSaid : Prop := fnExactPathLenRow.holds Try.pinned (OpenSpec.ofChange fnExactPathLenSpec)

/-- ITS FALSE NEIGHBOUR: 'it returns false'. Refute it at one input. -/
def fnExactPathLenWrong : ChangeSpec := { name := "fnExactPathLen", fn := fun _ => fun
  | [d1, d2] => { results := [.lit (.bool false)], args := [d1, d2] }
  | _ => none }
def FnExactPathLenWrongFalsely : Prop := fnExactPathLenRow.holds Try.pinned (OpenSpec.ofChange fnExactPathLenWrong)

/-- 'laws.FnExactHashText': WHATEVER THE INPUT: true; the input reads as it did. -/
def fnExactHashTextSpec : ChangeSpec := { name := "fnExactHashText", fn := fun _ => fun
  | [d] => { results := [.lit (.bool true)], args := [d] }
  | _ => none }
def fnExactHashTextRow : OpenClaim := { program := "ytfbhlofifodkjaa", sum := "9ca5efcf4bedb55ec8a32ed893462700387f5dfe2caef72583259b78b3db4486", func := "loop.example/belfry/laws.FnExactHashText", spec := "fnExactHashText", named := ["encoding/binary.BigEndian"], apart := false }
def FnExactHashTextSaid : Prop := fnExactHashTextRow.holds Try.pinned (OpenSpec.ofChange fnExactHashTextSpec)

/-- ITS FALSE NEIGHBOUR: 'it returns false'. Refute it at one input. -/
def fnExactHashTextWrong : ChangeSpec := { name := "fnExactHashText", fn := fun _ => fun
  | [d] => { results := [.lit (.bool false)], args := [d] }
  | _ => none }
def FnExactHashTextWrongFalsely : Prop := fnExactHashTextRow.holds Try.pinned (OpenSpec.ofChange fnExactHashTextWrong)

/-- 'laws.FnExactGrowthLen': WHATEVER THE INPUT: true; the input reads as it did. -/
def fnExactGrowthLenSpec : ChangeSpec := { name := "fnExactGrowthLen", fn := fun _ => fun
  | [d1, d2] => { results := [.lit (.bool true)], args := [d1, d2] }
  | _ => none }
def fnExactGrowthLenRow : OpenClaim := { program := "ytfbhlofifodkjaa", sum := "9ca5efcf4bedb55ec8a32ed893462700387f5dfe2caef72583259b78b3db4486", func := "loop.example/belfry/laws.FnExactGrowthLen", spec := "fnExactGrowthLen", recurses := true, apart := false }
def FnExactGrowthLenSaid : Prop := fnExactGrowthLenRow.holds Try.pinned (OpenSpec.ofChange fnExactGrowthLenSpec)

/-- ITS FALSE NEIGHBOUR: 'it returns false'. Refute it at one input. -/
def fnExactGrowthLenWrong : ChangeSpec := { name := "fnExactGrowthLen", fn := fun _ => fun
  | [d1, d2] => { results := [.lit (.bool false)], args := [d1, d2] }
  | _ => none }
def FnExactGrowthLenWrongFalsely : Prop := fnExactGrowthLenRow.holds Try.pinned (OpenSpec.ofChange fnExactGrowthLenWrong)

/-- 'laws.FnExactHashOf': WHATEVER THE INPUT: true; the input reads as it did. -/
def fnExactHashOfSpec : ChangeSpec := { name := "fnExactHashOf", fn := fun _ => fun
  | [d] => { results := [.lit (.bool true)], args := [d] }
  | _ => none }
def fnExactHashOfRow : OpenClaim := { program := "ytfbhlofifodkjaa", sum := "9ca5efcf4bedb55ec8a32ed893462700387f5dfe2caef72583259b78b3db4486", func := "loop.example/belfry/laws.FnExactHashOf", spec := "fnExactHashOf", unfollowed := true, recurses := true, named := ["encoding/binary.BigEndian"], apart := false }
def FnExactHashOfSaid : Prop := fnExactHashOfRow.holds Try.pinned (OpenSpec.ofChange fnExactHashOfSpec)

/-- ITS FALSE NEIGHBOUR: 'it returns false'. Refute it at one input. -/
def fnExactHashOfWrong : ChangeSpec := { name := "fnExactHashOf", fn := fun _ => fun
  | [d] => { results := [.lit (.bool false)], args := [d] }
  | _ => none }
def FnExactHashOfWrongFalsely : Prop := fnExactHashOfRow.holds Try.pinned (OpenSpec.ofChange fnExactHashOfWrong)

/-- 'laws.FnExactClashOk': WHATEVER THE INPUT: true; the input reads as it did. -/
def fnExactClashOkSpec : ChangeSpec := { name := "fnExactClashOk", fn := fun _ => fun
  | [d] => { results := [.lit (.bool true)], args := [d] }
  | _ => none }
def fnExactClashOkRow : OpenClaim := { program := "ytfbhlofifodkjaa", sum := "9ca5efcf4bedb55ec8a32ed893462700387f5dfe2caef72583259b78b3db4486", func := "loop.example/belfry/laws.FnExactClashOk", spec := "fnExactClashOk", unfollowed := true, recurses := true, named := ["encoding/binary.BigEndian"], apart := false }
def FnExactClashOkSaid : Prop := fnExactClashOkRow.holds Try.pinned (OpenSpec.ofChange fnExactClashOkSpec)

/-- ITS FALSE NEIGHBOUR: 'it returns false'. Refute it at one input. -/
def fnExactClashOkWrong : ChangeSpec := { name := "fnExactClashOk", fn := fun _ => fun
  | [d] => { results := [.lit (.bool false)], args := [d] }
  | _ => none }
def FnExactClashOkWrongFalsely : Prop := fnExactClashOkRow.holds Try.pinned (OpenSpec.ofChange fnExactClashOkWrong)

/-- 'laws.FnExactHashLeaf': WHATEVER THE INPUT: true; the input reads as it did. -/
def fnExactHashLeafSpec : ChangeSpec := { name := "fnExactHashLeaf", fn := fun _ => fun
  | [d] => { results := [.lit (.bool true)], args := [d] }
  | _ => none }
def fnExactHashLeafRow : OpenClaim := { program := "ytfbhlofifodkjaa", sum := "9ca5efcf4bedb55ec8a32ed893462700387f5dfe2caef72583259b78b3db4486", func := "loop.example/belfry/laws.FnExactHashLeaf", spec := "fnExactHashLeaf", unfollowed := true, recurses := true, named := ["encoding/binary.BigEndian"], apart := false }
def FnExactHashLeafSaid : Prop := fnExactHashLeafRow.holds Try.pinned (OpenSpec.ofChange fnExactHashLeafSpec)

/-- ITS FALSE NEIGHBOUR: 'it returns false'. Refute it at one input. -/
def fnExactHashLeafWrong : ChangeSpec := { name := "fnExactHashLeaf", fn := fun _ => fun
  | [d] => { results := [.lit (.bool false)], args := [d] }
  | _ => none }
def FnExactHashLeafWrongFalsely : Prop := fnExactHashLeafRow.holds Try.pinned (OpenSpec.ofChange fnExactHashLeafWrong)

/-- 'laws.FnExactHashPair': WHATEVER THE INPUT: true; the input reads as it did. -/
def fnExactHashPairSpec : ChangeSpec := { name := "fnExactHashPair", fn := fun _ => fun
  | [d1, d2] => { results := [.lit (.bool true)], args := [d1, d2] }
  | _ => none }
def fnExactHashPairRow : OpenClaim := { program := "ytfbhlofifodkjaa", sum := "9ca5efcf4bedb55ec8a32ed893462700387f5dfe2caef72583259b78b3db4486", func := "loop.example/belfry/laws.FnExactHashPair", spec := "fnExactHashPair", unfollowed := true, recurses := true, named := ["encoding/binary.BigEndian"], apart := false }
def FnExactHashPairSaid : Prop := fnExactHashPairRow.holds Try.pinned (OpenSpec.ofChange fnExactHashPairSpec)

/-- ITS FALSE NEIGHBOUR: 'it returns false'. Refute it at one input. -/
def fnExactHashPairWrong : ChangeSpec := { name := "fnExactHashPair", fn := fun _ => fun
  | [d1, d2] => { results := [.lit (.bool false)], args := [d1, d2] }
  | _ => none }
def FnExactHashPairWrongFalsely : Prop := fnExactHashPairRow.holds Try.pinned (OpenSpec.ofChange fnExactHashPairWrong)

/-- 'laws.FnHashBlockApart': WHATEVER THE INPUT: true; the input reads as it did. -/
def fnHashBlockApartSpec : ChangeSpec := { name := "fnHashBlockApart", fn := fun _ => fun
  | [d] => { results := [.lit (.bool true)], args := [d] }
  | _ => none }
def fnHashBlockApartRow : OpenClaim := { program := "ytfbhlofifodkjaa", sum := "9ca5efcf4bedb55ec8a32ed893462700387f5dfe2caef72583259b78b3db4486", func := "loop.example/belfry/laws.FnHashBlockApart", spec := "fnHashBlockApart", unfollowed := true, recurses := true, named := ["encoding/binary.BigEndian"], apart := false }
def FnHashBlockApartSaid : Prop := fnHashBlockApartRow.holds Try.pinned (OpenSpec.ofChange fnHashBlockApartSpec)

/-- ITS FALSE NEIGHBOUR: 'it returns false'. Refute it at one input. -/
def fnHashBlockApartWrong : ChangeSpec := { name := "fnHashBlockApart", fn := fun _ => fun
  | [d] => { results := [.lit (.bool false)], args := [d] }
  | _ => none }
def FnHashBlockApartWrongFalsely : Prop := fnHashBlockApartRow.holds Try.pinned (OpenSpec.ofChange fnHashBlockApartWrong)

/-- 'laws.FnClashTurned': WHATEVER THE INPUT: true; the input reads as it did. -/
def fnClashTurnedSpec : ChangeSpec := { name := "fnClashTurned", fn := fun _ => fun
  | [d] => { results := [.lit (.bool true)], args := [d] }
  | _ => none }
def fnClashTurnedRow : OpenClaim := { program := "ytfbhlofifodkjaa", sum := "9ca5efcf4bedb55ec8a32ed893462700387f5dfe2caef72583259b78b3db4486", func := "loop.example/belfry/laws.FnClashTurned", spec := "fnClashTurned", unfollowed := true, recurses := true, named := ["encoding/binary.BigEndian"], apart := false }
def FnClashTurnedSaid : Prop := fnClashTurnedRow.holds Try.pinned (OpenSpec.ofChange fnClashTurnedSpec)

/-- ITS FALSE NEIGHBOUR: 'it returns false'. Refute it at one input. -/
def fnClashTurnedWrong : ChangeSpec := { name := "fnClashTurned", fn := fun _ => fun
  | [d] => { results := [.lit (.bool false)], args := [d] }
  | _ => none }
def FnClashTurnedWrongFalsely : Prop := fnClashTurnedRow.holds Try.pinned (OpenSpec.ofChange fnClashTurnedWrong)

/-- 'laws.FnExactPeaksRoot': WHATEVER THE INPUT: true; the input reads as it did. -/
def fnExactPeaksRootSpec : ChangeSpec := { name := "fnExactPeaksRoot", fn := fun _ => fun
  | [d] => { results := [.lit (.bool true)], args := [d] }
  | _ => none }
def fnExactPeaksRootRow : OpenClaim := { program := "ytfbhlofifodkjaa", sum := "9ca5efcf4bedb55ec8a32ed893462700387f5dfe2caef72583259b78b3db4486", func := "loop.example/belfry/laws.FnExactPeaksRoot", spec := "fnExactPeaksRoot", unfollowed := true, recurses := true, named := ["encoding/binary.BigEndian"], apart := false }
def FnExactPeaksRootSaid : Prop := fnExactPeaksRootRow.holds Try.pinned (OpenSpec.ofChange fnExactPeaksRootSpec)

/-- ITS FALSE NEIGHBOUR: 'it returns false'. Refute it at one input. -/
def fnExactPeaksRootWrong : ChangeSpec := { name := "fnExactPeaksRoot", fn := fun _ => fun
  | [d] => { results := [.lit (.bool false)], args := [d] }
  | _ => none }
def FnExactPeaksRootWrongFalsely : Prop := fnExactPeaksRootRow.holds Try.pinned (OpenSpec.ofChange fnExactPeaksRootWrong)

/-- 'laws.FnExactWireOk': WHATEVER THE INPUT: true; the input reads as it did. -/
def fnExactWireOkSpec : ChangeSpec := { name := "fnExactWireOk", fn := fun _ => fun
  | [d] => { results := [.lit (.bool true)], args := [d] }
  | _ => none }
def fnExactWireOkRow : OpenClaim := { program := "ytfbhlofifodkjaa", sum := "9ca5efcf4bedb55ec8a32ed893462700387f5dfe2caef72583259b78b3db4486", func := "loop.example/belfry/laws.FnExactWireOk", spec := "fnExactWireOk", apart := false }
def FnExactWireOkSaid : Prop := fnExactWireOkRow.holds Try.pinned (OpenSpec.ofChange fnExactWireOkSpec)

/-- ITS FALSE NEIGHBOUR: 'it returns false'. Refute it at one input. -/
def fnExactWireOkWrong : ChangeSpec := { name := "fnExactWireOk", fn := fun _ => fun
  | [d] => { results := [.lit (.bool false)], args := [d] }
  | _ => none }
def FnExactWireOkWrongFalsely : Prop := fnExactWireOkRow.holds Try.pinned (OpenSpec.ofChange fnExactWireOkWrong)

/-- 'laws.FnExactWireBytes': WHATEVER THE INPUT: true; the input reads as it did. -/
def fnExactWireBytesSpec : ChangeSpec := { name := "fnExactWireBytes", fn := fun _ => fun
  | [d] => { results := [.lit (.bool true)], args := [d] }
  | _ => none }
def fnExactWireBytesRow : OpenClaim := { program := "ytfbhlofifodkjaa", sum := "9ca5efcf4bedb55ec8a32ed893462700387f5dfe2caef72583259b78b3db4486", func := "loop.example/belfry/laws.FnExactWireBytes", spec := "fnExactWireBytes", recurses := true, named := ["encoding/binary.BigEndian"], apart := false }
def FnExactWireBytesSaid : Prop := fnExactWireBytesRow.holds Try.pinned (OpenSpec.ofChange fnExactWireBytesSpec)

/-- ITS FALSE NEIGHBOUR: 'it returns false'. Refute it at one input. -/
def fnExactWireBytesWrong : ChangeSpec := { name := "fnExactWireBytes", fn := fun _ => fun
  | [d] => { results := [.lit (.bool false)], args := [d] }
  | _ => none }
def FnExactWireBytesWrongFalsely : Prop := fnExactWireBytesRow.holds Try.pinned (OpenSpec.ofChange fnExactWireBytesWrong)

/- THE SECOND FORM. 'bulk': how many values and letters a reading holds, each counted each time it is reached (what is shared counts as often as it is met; a slice's spare places count too). A statement '..UptoSaid' is the law's where the arguments, and the package variables that the reading takes, are together of bulk at most 1048576: NARROWER than '..Said'. Prove '..Said' where nothing that the law and all that it calls make is longer than what came in: it says more and counts as full. Else prove '..UptoSaid'. A law counts once. -/
mutual
def uptoBulk {H : Type} : DataW H → Nat
  | .lit (.string bytes) => bytes.length + 1
  | .lit _ => 1
  | .nil => 1
  | .ptr d => uptoBulk d + 1
  | .slice elems spare => uptoBulkAll elems + uptoBulkAll spare + 1
  | .agg parts => uptoBulkAll parts + 1
  | .iface _ d => uptoBulk d + 1
  | .map entries => uptoBulkEntries entries + 1
  | .held _ => 1
def uptoBulkAll {H : Type} : List (DataW H) → Nat
  | [] => 0
  | d :: r => uptoBulk d + uptoBulkAll r
def uptoBulkEntries {H : Type} : List (Lit × DataW H) → Nat
  | [] => 0
  | x :: r => uptoBulkEntry x + uptoBulkEntries r
def uptoBulkEntry {H : Type} : Lit × DataW H → Nat
  | (.string bytes, d) => bytes.length + uptoBulk d + 1
  | (_, d) => uptoBulk d + 1
 end
def uptoSmall : (H : Type) → List (DataW H) → Bool := fun _ ds => decide (uptoBulkAll ds ≤ 1048576)
def OpenSpec.upto (s : _root_.Go.ChangeSpec) : _root_.Go.OpenSpec := { _root_.Go.OpenSpec.ofChange s with cond := some uptoSmall }

/-- 'laws.FnExactConstants', WHERE WHAT IT READS IS OF BULK AT MOST 1048576: true; the input reads as it did. -/
def fnExactConstantsUptoRow : OpenClaim := { program := "ytfbhlofifodkjaa", sum := "9ca5efcf4bedb55ec8a32ed893462700387f5dfe2caef72583259b78b3db4486", func := "loop.example/belfry/laws.FnExactConstants", spec := "fnExactConstants", apart := false, narrowed := true }
def FnExactConstantsUptoSaid : Prop := fnExactConstantsUptoRow.holds Try.pinned (OpenSpec.upto fnExactConstantsSpec)

/-- 'laws.FnExactTreeSplit', WHERE WHAT IT READS IS OF BULK AT MOST 1048576: true; the input reads as it did. -/
def fnExactTreeSplitUptoRow : OpenClaim := { program := "ytfbhlofifodkjaa", sum := "9ca5efcf4bedb55ec8a32ed893462700387f5dfe2caef72583259b78b3db4486", func := "loop.example/belfry/laws.FnExactTreeSplit", spec := "fnExactTreeSplit", apart := false, narrowed := true }
def FnExactTreeSplitUptoSaid : Prop := fnExactTreeSplitUptoRow.holds Try.pinned (OpenSpec.upto fnExactTreeSplitSpec)

/-- 'laws.FnExactWireName', WHERE WHAT IT READS IS OF BULK AT MOST 1048576: true; the input reads as it did. -/
def fnExactWireNameUptoRow : OpenClaim := { program := "ytfbhlofifodkjaa", sum := "9ca5efcf4bedb55ec8a32ed893462700387f5dfe2caef72583259b78b3db4486", func := "loop.example/belfry/laws.FnExactWireName", spec := "fnExactWireName", apart := false, narrowed := true }
def FnExactWireNameUptoSaid : Prop := fnExactWireNameUptoRow.holds Try.pinned (OpenSpec.upto fnExactWireNameSpec)

/-- 'laws.FnExactHashBytes', WHERE WHAT IT READS IS OF BULK AT MOST 1048576: true; the input reads as it did. -/
def fnExactHashBytesUptoRow : OpenClaim := { program := "ytfbhlofifodkjaa", sum := "9ca5efcf4bedb55ec8a32ed893462700387f5dfe2caef72583259b78b3db4486", func := "loop.example/belfry/laws.FnExactHashBytes", spec := "fnExactHashBytes", named := ["encoding/binary.BigEndian"], apart := false, narrowed := true }
def FnExactHashBytesUptoSaid : Prop := fnExactHashBytesUptoRow.holds Try.pinned (OpenSpec.upto fnExactHashBytesSpec)

/-- 'laws.FnExactHashBack', WHERE WHAT IT READS IS OF BULK AT MOST 1048576: true; the input reads as it did. -/
def fnExactHashBackUptoRow : OpenClaim := { program := "ytfbhlofifodkjaa", sum := "9ca5efcf4bedb55ec8a32ed893462700387f5dfe2caef72583259b78b3db4486", func := "loop.example/belfry/laws.FnExactHashBack", spec := "fnExactHashBack", unfollowed := true, recurses := true, named := ["encoding/binary.BigEndian"], apart := false, narrowed := true }
def FnExactHashBackUptoSaid : Prop := fnExactHashBackUptoRow.holds Try.pinned (OpenSpec.upto fnExactHashBackSpec)

/-- 'laws.FnExactLeavesOk', WHERE WHAT IT READS IS OF BULK AT MOST 1048576: true; the input reads as it did. -/
def fnExactLeavesOkUptoRow : OpenClaim := { program := "ytfbhlofifodkjaa", sum := "9ca5efcf4bedb55ec8a32ed893462700387f5dfe2caef72583259b78b3db4486", func := "loop.example/belfry/laws.FnExactLeavesOk", spec := "fnExactLeavesOk", apart := false, narrowed := true }
def FnExactLeavesOkUptoSaid : Prop := fnExactLeavesOkUptoRow.holds Try.pinned (OpenSpec.upto fnExactLeavesOkSpec)

/-- 'laws.FnExactClashFirst', WHERE WHAT IT READS IS OF BULK AT MOST 1048576: true; the input reads as it did. -/
def fnExactClashFirstUptoRow : OpenClaim := { program := "ytfbhlofifodkjaa", sum := "9ca5efcf4bedb55ec8a32ed893462700387f5dfe2caef72583259b78b3db4486", func := "loop.example/belfry/laws.FnExactClashFirst", spec := "fnExactClashFirst", apart := false, narrowed := true }
def FnExactClashFirstUptoSaid : Prop := fnExactClashFirstUptoRow.holds Try.pinned (OpenSpec.upto fnExactClashFirstSpec)

/-- 'laws.FnExactPeaksCount', WHERE WHAT IT READS IS OF BULK AT MOST 1048576: true; the input reads as it did. -/
def fnExactPeaksCountUptoRow : OpenClaim := { program := "ytfbhlofifodkjaa", sum := "9ca5efcf4bedb55ec8a32ed893462700387f5dfe2caef72583259b78b3db4486", func := "loop.example/belfry/laws.FnExactPeaksCount", spec := "fnExactPeaksCount", apart := false, narrowed := true }
def FnExactPeaksCountUptoSaid : Prop := fnExactPeaksCountUptoRow.holds Try.pinned (OpenSpec.upto fnExactPeaksCountSpec)

/-- 'laws.FnExactHashBlock', WHERE WHAT IT READS IS OF BULK AT MOST 1048576: true; the input reads as it did. -/
def fnExactHashBlockUptoRow : OpenClaim := { program := "ytfbhlofifodkjaa", sum := "9ca5efcf4bedb55ec8a32ed893462700387f5dfe2caef72583259b78b3db4486", func := "loop.example/belfry/laws.FnExactHashBlock", spec := "fnExactHashBlock", apart := false, narrowed := true }
def FnExactHashBlockUptoSaid : Prop := fnExactHashBlockUptoRow.holds Try.pinned (OpenSpec.upto fnExactHashBlockSpec)

/-- 'laws.FnExactPathLen', WHERE WHAT IT READS IS OF BULK AT MOST 1048576: true; the input reads as it did. -/
def fnExactPathLenUptoRow : OpenClaim := { program := "ytfbhlofifodkjaa", sum := "9ca5efcf4bedb55ec8a32ed893462700387f5dfe2caef72583259b78b3db4486", func := "loop.example/belfry/laws.FnExactPathLen", spec := "fnExactPathLen", apart := false, narrowed := true }
def FnExactPathLenUptoSaid : Prop := fnExactPathLenUptoRow.holds Try.pinned (OpenSpec.upto fnExactPathLenSpec)

/-- 'laws.FnExactHashText', WHERE WHAT IT READS IS OF BULK AT MOST 1048576: true; the input reads as it did. -/
def fnExactHashTextUptoRow : OpenClaim := { program := "ytfbhlofifodkjaa", sum := "9ca5efcf4bedb55ec8a32ed893462700387f5dfe2caef72583259b78b3db4486", func := "loop.example/belfry/laws.FnExactHashText", spec := "fnExactHashText", named := ["encoding/binary.BigEndian"], apart := false, narrowed := true }
def FnExactHashTextUptoSaid : Prop := fnExactHashTextUptoRow.holds Try.pinned (OpenSpec.upto fnExactHashTextSpec)

/-- 'laws.FnExactGrowthLen', WHERE WHAT IT READS IS OF BULK AT MOST 1048576: true; the input reads as it did. -/
def fnExactGrowthLenUptoRow : OpenClaim := { program := "ytfbhlofifodkjaa", sum := "9ca5efcf4bedb55ec8a32ed893462700387f5dfe2caef72583259b78b3db4486", func := "loop.example/belfry/laws.FnExactGrowthLen", spec := "fnExactGrowthLen", recurses := true, apart := false, narrowed := true }
def FnExactGrowthLenUptoSaid : Prop := fnExactGrowthLenUptoRow.holds Try.pinned (OpenSpec.upto fnExactGrowthLenSpec)

/-- 'laws.FnExactHashOf', WHERE WHAT IT READS IS OF BULK AT MOST 1048576: true; the input reads as it did. -/
def fnExactHashOfUptoRow : OpenClaim := { program := "ytfbhlofifodkjaa", sum := "9ca5efcf4bedb55ec8a32ed893462700387f5dfe2caef72583259b78b3db4486", func := "loop.example/belfry/laws.FnExactHashOf", spec := "fnExactHashOf", unfollowed := true, recurses := true, named := ["encoding/binary.BigEndian"], apart := false, narrowed := true }
def FnExactHashOfUptoSaid : Prop := fnExactHashOfUptoRow.holds Try.pinned (OpenSpec.upto fnExactHashOfSpec)

/-- 'laws.FnExactClashOk', WHERE WHAT IT READS IS OF BULK AT MOST 1048576: true; the input reads as it did. -/
def fnExactClashOkUptoRow : OpenClaim := { program := "ytfbhlofifodkjaa", sum := "9ca5efcf4bedb55ec8a32ed893462700387f5dfe2caef72583259b78b3db4486", func := "loop.example/belfry/laws.FnExactClashOk", spec := "fnExactClashOk", unfollowed := true, recurses := true, named := ["encoding/binary.BigEndian"], apart := false, narrowed := true }
def FnExactClashOkUptoSaid : Prop := fnExactClashOkUptoRow.holds Try.pinned (OpenSpec.upto fnExactClashOkSpec)

/-- 'laws.FnExactHashLeaf', WHERE WHAT IT READS IS OF BULK AT MOST 1048576: true; the input reads as it did. -/
def fnExactHashLeafUptoRow : OpenClaim := { program := "ytfbhlofifodkjaa", sum := "9ca5efcf4bedb55ec8a32ed893462700387f5dfe2caef72583259b78b3db4486", func := "loop.example/belfry/laws.FnExactHashLeaf", spec := "fnExactHashLeaf", unfollowed := true, recurses := true, named := ["encoding/binary.BigEndian"], apart := false, narrowed := true }
def FnExactHashLeafUptoSaid : Prop := fnExactHashLeafUptoRow.holds Try.pinned (OpenSpec.upto fnExactHashLeafSpec)

/-- 'laws.FnExactHashPair', WHERE WHAT IT READS IS OF BULK AT MOST 1048576: true; the input reads as it did. -/
def fnExactHashPairUptoRow : OpenClaim := { program := "ytfbhlofifodkjaa", sum := "9ca5efcf4bedb55ec8a32ed893462700387f5dfe2caef72583259b78b3db4486", func := "loop.example/belfry/laws.FnExactHashPair", spec := "fnExactHashPair", unfollowed := true, recurses := true, named := ["encoding/binary.BigEndian"], apart := false, narrowed := true }
def FnExactHashPairUptoSaid : Prop := fnExactHashPairUptoRow.holds Try.pinned (OpenSpec.upto fnExactHashPairSpec)

/-- 'laws.FnHashBlockApart', WHERE WHAT IT READS IS OF BULK AT MOST 1048576: true; the input reads as it did. -/
def fnHashBlockApartUptoRow : OpenClaim := { program := "ytfbhlofifodkjaa", sum := "9ca5efcf4bedb55ec8a32ed893462700387f5dfe2caef72583259b78b3db4486", func := "loop.example/belfry/laws.FnHashBlockApart", spec := "fnHashBlockApart", unfollowed := true, recurses := true, named := ["encoding/binary.BigEndian"], apart := false, narrowed := true }
def FnHashBlockApartUptoSaid : Prop := fnHashBlockApartUptoRow.holds Try.pinned (OpenSpec.upto fnHashBlockApartSpec)

/-- 'laws.FnClashTurned', WHERE WHAT IT READS IS OF BULK AT MOST 1048576: true; the input reads as it did. -/
def fnClashTurnedUptoRow : OpenClaim := { program := "ytfbhlofifodkjaa", sum := "9ca5efcf4bedb55ec8a32ed893462700387f5dfe2caef72583259b78b3db4486", func := "loop.example/belfry/laws.FnClashTurned", spec := "fnClashTurned", unfollowed := true, recurses := true, named := ["encoding/binary.BigEndian"], apart := false, narrowed := true }
def FnClashTurnedUptoSaid : Prop := fnClashTurnedUptoRow.holds Try.pinned (OpenSpec.upto fnClashTurnedSpec)

/-- 'laws.FnExactPeaksRoot', WHERE WHAT IT READS IS OF BULK AT MOST 1048576: true; the input reads as it did. -/
def fnExactPeaksRootUptoRow : OpenClaim := { program := "ytfbhlofifodkjaa", sum := "9ca5efcf4bedb55ec8a32ed893462700387f5dfe2caef72583259b78b3db4486", func := "loop.example/belfry/laws.FnExactPeaksRoot", spec := "fnExactPeaksRoot", unfollowed := true, recurses := true, named := ["encoding/binary.BigEndian"], apart := false, narrowed := true }
def FnExactPeaksRootUptoSaid : Prop := fnExactPeaksRootUptoRow.holds Try.pinned (OpenSpec.upto fnExactPeaksRootSpec)

/-- 'laws.FnExactWireOk', WHERE WHAT IT READS IS OF BULK AT MOST 1048576: true; the input reads as it did. -/
def fnExactWireOkUptoRow : OpenClaim := { program := "ytfbhlofifodkjaa", sum := "9ca5efcf4bedb55ec8a32ed893462700387f5dfe2caef72583259b78b3db4486", func := "loop.example/belfry/laws.FnExactWireOk", spec := "fnExactWireOk", apart := false, narrowed := true }
def FnExactWireOkUptoSaid : Prop := fnExactWireOkUptoRow.holds Try.pinned (OpenSpec.upto fnExactWireOkSpec)

/-- 'laws.FnExactWireBytes', WHERE WHAT IT READS IS OF BULK AT MOST 1048576: true; the input reads as it did. -/
def fnExactWireBytesUptoRow : OpenClaim := { program := "ytfbhlofifodkjaa", sum := "9ca5efcf4bedb55ec8a32ed893462700387f5dfe2caef72583259b78b3db4486", func := "loop.example/belfry/laws.FnExactWireBytes", spec := "fnExactWireBytes", recurses := true, named := ["encoding/binary.BigEndian"], apart := false, narrowed := true }
def FnExactWireBytesUptoSaid : Prop := fnExactWireBytesUptoRow.holds Try.pinned (OpenSpec.upto fnExactWireBytesSpec)

end Rows
end Go.Proofs.Ytfbhlofifodkjaa
