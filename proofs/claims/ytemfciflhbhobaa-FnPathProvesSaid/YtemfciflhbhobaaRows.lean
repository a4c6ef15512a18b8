/-
  No cell of these rows narrows 'for every input' (looked for: loops, veiled, ifaces, maps, wideKeys, modest, calm, conditions, laid).
  DERIVED. THE GIVEN ROWS OF THIS SEAT. 21 by the template 'for every input the law returns true; each argument reads behind the call as it read before'; 0 by the template 'total and deterministic' (their statements: YtemfciflhbhobaaTotals.lean).
  GIVEN WITH THE SEED: the statements are not yours to turn. If you find one false, say at which input.
  Laid BY PROGRAM, IN A SANDBOX (cutbox-rows.mjs): the forced cells as the released guide's own fill.sh prints them over the translation cf41a7da2e73e59a… (all of the seat's roots in one cut). By AI agents, Wed Nov 11 2026. No macro, syntax, notation, axiom, sorry.
-/
import Derived.Test.YtemfciflhbhobaaChecked
import GoSem.Claim
import GoSem.ClaimJoined
import GoSem.ClaimMapViews
import Derived.JoinedTies
import Derived.KernelRfl
namespace Go.Proofs.Ytemfciflhbhobaa
/- THE CELL 'sum', in the pinned program and in every row, IS THE sha256 OF THE DUMP (.gsa) THAT YtemfciflhbhobaaProg.lean LOADS. Nothing in Lean hashes anything: it is a label: what it is worth is what the hold of that sum in a sandbox is worth. -/
noncomputable def Try.pinned : Pinned := { name := "ytemfciflhbhobaa", sum := "cf41a7da2e73e59abb35b20b06098f7366b3e7a668e89e8526c3a25a27e3a8d4", checked := Try.checked }
namespace Rows
def none {H : Type} : Left H := { results := [], args := [] }

/-- 'laws.FnExactChainEnd': WHATEVER THE INPUT: true; the input reads as it did. -/
def fnExactChainEndSpec : ChangeSpec := { name := "fnExactChainEnd", fn := fun _ => fun
  | [d1, d2] => { results := [.lit (.bool true)], args := [d1, d2] }
  | _ => none }
def fnExactChainEndRow : OpenClaim := { program := "ytemfciflhbhobaa", sum := "cf41a7da2e73e59abb35b20b06098f7366b3e7a668e89e8526c3a25a27e3a8d4", func := "loop.example/belfry/laws.FnExactChainEnd", spec := "fnExactChainEnd", unfollowed := true, recurses := true, named := ["encoding/binary.BigEndian"], plainKeys := false, apart := false }
def FnExactChainEndSaid : Prop := fnExactChainEndRow.holds Try.pinned (OpenSpec.ofChange fnExactChainEndSpec)

/-- ITS FALSE NEIGHBOUR: 'it returns false'. Refute it at one input. -/
def fnExactChainEndWrong : ChangeSpec := { name := "fnExactChainEnd", fn := fun _ => fun
  | [d1, d2] => { results := [.lit (.bool false)], args := [d1, d2] }
  | _ => none }
def FnExactChainEndWrongFalsely : Prop := fnExactChainEndRow.holds Try.pinned (OpenSpec.ofChange fnExactChainEndWrong)

/-- 'laws.FnExactClashOfGrowth': WHATEVER THE INPUT: true; the input reads as it did. -/
def fnExactClashOfGrowthSpec : ChangeSpec := { name := "fnExactClashOfGrowth", fn := fun _ => fun
  | [d1, d2, d3, d4, d5] => { results := [.lit (.bool true)], args := [d1, d2, d3, d4, d5] }
  | _ => none }
def fnExactClashOfGrowthRow : OpenClaim := { program := "ytemfciflhbhobaa", sum := "cf41a7da2e73e59abb35b20b06098f7366b3e7a668e89e8526c3a25a27e3a8d4", func := "loop.example/belfry/laws.FnExactClashOfGrowth", spec := "fnExactClashOfGrowth", unfollowed := true, recurses := true, named := ["encoding/binary.BigEndian"], plainKeys := false, apart := false }
def FnExactClashOfGrowthSaid : Prop := fnExactClashOfGrowthRow.holds Try.pinned (OpenSpec.ofChange fnExactClashOfGrowthSpec)

/-- ITS FALSE NEIGHBOUR: 'it returns false'. Refute it at one input. -/
def fnExactClashOfGrowthWrong : ChangeSpec := { name := "fnExactClashOfGrowth", fn := fun _ => fun
  | [d1, d2, d3, d4, d5] => { results := [.lit (.bool false)], args := [d1, d2, d3, d4, d5] }
  | _ => none }
def FnExactClashOfGrowthWrongFalsely : Prop := fnExactClashOfGrowthRow.holds Try.pinned (OpenSpec.ofChange fnExactClashOfGrowthWrong)

/-- 'laws.FnExactClashOfChain': WHATEVER THE INPUT: true; the input reads as it did. -/
def fnExactClashOfChainSpec : ChangeSpec := { name := "fnExactClashOfChain", fn := fun _ => fun
  | [d1, d2, d3, d4, d5, d6, d7] => { results := [.lit (.bool true)], args := [d1, d2, d3, d4, d5, d6, d7] }
  | _ => none }
def fnExactClashOfChainRow : OpenClaim := { program := "ytemfciflhbhobaa", sum := "cf41a7da2e73e59abb35b20b06098f7366b3e7a668e89e8526c3a25a27e3a8d4", func := "loop.example/belfry/laws.FnExactClashOfChain", spec := "fnExactClashOfChain", unfollowed := true, recurses := true, named := ["encoding/binary.BigEndian"], plainKeys := false, apart := false }
def FnExactClashOfChainSaid : Prop := fnExactClashOfChainRow.holds Try.pinned (OpenSpec.ofChange fnExactClashOfChainSpec)

/-- ITS FALSE NEIGHBOUR: 'it returns false'. Refute it at one input. -/
def fnExactClashOfChainWrong : ChangeSpec := { name := "fnExactClashOfChain", fn := fun _ => fun
  | [d1, d2, d3, d4, d5, d6, d7] => { results := [.lit (.bool false)], args := [d1, d2, d3, d4, d5, d6, d7] }
  | _ => none }
def FnExactClashOfChainWrongFalsely : Prop := fnExactClashOfChainRow.holds Try.pinned (OpenSpec.ofChange fnExactClashOfChainWrong)

/-- 'laws.FnExactTreeRoot': WHATEVER THE INPUT: true; the input reads as it did. -/
def fnExactTreeRootSpec : ChangeSpec := { name := "fnExactTreeRoot", fn := fun _ => fun
  | [d] => { results := [.lit (.bool true)], args := [d] }
  | _ => none }
def fnExactTreeRootRow : OpenClaim := { program := "ytemfciflhbhobaa", sum := "cf41a7da2e73e59abb35b20b06098f7366b3e7a668e89e8526c3a25a27e3a8d4", func := "loop.example/belfry/laws.FnExactTreeRoot", spec := "fnExactTreeRoot", unfollowed := true, recurses := true, named := ["encoding/binary.BigEndian"], plainKeys := false, apart := false }
def FnExactTreeRootSaid : Prop := fnExactTreeRootRow.holds Try.pinned (OpenSpec.ofChange fnExactTreeRootSpec)

/-- ITS FALSE NEIGHBOUR: 'it returns false'. Refute it at one input. -/
def fnExactTreeRootWrong : ChangeSpec := { name := "fnExactTreeRoot", fn := fun _ => fun
  | [d] => { results := [.lit (.bool false)], args := [d] }
  | _ => none }
def FnExactTreeRootWrongFalsely : Prop := fnExactTreeRootRow.holds Try.pinned (OpenSpec.ofChange fnExactTreeRootWrong)

/-- 'laws.FnExactTreePoint': WHATEVER THE INPUT: true; the input reads as it did. -/
def fnExactTreePointSpec : ChangeSpec := { name := "fnExactTreePoint", fn := fun _ => fun
  | [d] => { results := [.lit (.bool true)], args := [d] }
  | _ => none }
def fnExactTreePointRow : OpenClaim := { program := "ytemfciflhbhobaa", sum := "cf41a7da2e73e59abb35b20b06098f7366b3e7a668e89e8526c3a25a27e3a8d4", func := "loop.example/belfry/laws.FnExactTreePoint", spec := "fnExactTreePoint", unfollowed := true, recurses := true, named := ["encoding/binary.BigEndian"], plainKeys := false, apart := false }
def FnExactTreePointSaid : Prop := fnExactTreePointRow.holds Try.pinned (OpenSpec.ofChange fnExactTreePointSpec)

/-- ITS FALSE NEIGHBOUR: 'it returns false'. Refute it at one input. -/
def fnExactTreePointWrong : ChangeSpec := { name := "fnExactTreePoint", fn := fun _ => fun
  | [d] => { results := [.lit (.bool false)], args := [d] }
  | _ => none }
def FnExactTreePointWrongFalsely : Prop := fnExactTreePointRow.holds Try.pinned (OpenSpec.ofChange fnExactTreePointWrong)

/-- 'laws.FnExactPathRoot': WHATEVER THE INPUT: true; the input reads as it did. -/
def fnExactPathRootSpec : ChangeSpec := { name := "fnExactPathRoot", fn := fun _ => fun
  | [d1, d2, d3, d4] => { results := [.lit (.bool true)], args := [d1, d2, d3, d4] }
  | _ => none }
def fnExactPathRootRow : OpenClaim := { program := "ytemfciflhbhobaa", sum := "cf41a7da2e73e59abb35b20b06098f7366b3e7a668e89e8526c3a25a27e3a8d4", func := "loop.example/belfry/laws.FnExactPathRoot", spec := "fnExactPathRoot", unfollowed := true, recurses := true, named := ["encoding/binary.BigEndian"], plainKeys := false, apart := false }
def FnExactPathRootSaid : Prop := fnExactPathRootRow.holds Try.pinned (OpenSpec.ofChange fnExactPathRootSpec)

/-- ITS FALSE NEIGHBOUR: 'it returns false'. Refute it at one input. -/
def fnExactPathRootWrong : ChangeSpec := { name := "fnExactPathRoot", fn := fun _ => fun
  | [d1, d2, d3, d4] => { results := [.lit (.bool false)], args := [d1, d2, d3, d4] }
  | _ => none }
def FnExactPathRootWrongFalsely : Prop := fnExactPathRootRow.holds Try.pinned (OpenSpec.ofChange fnExactPathRootWrong)

/-- 'laws.FnTreeHalves': WHATEVER THE INPUT: true; the input reads as it did. -/
def fnTreeHalvesSpec : ChangeSpec := { name := "fnTreeHalves", fn := fun _ => fun
  | [d] => { results := [.lit (.bool true)], args := [d] }
  | _ => none }
def fnTreeHalvesRow : OpenClaim := { program := "ytemfciflhbhobaa", sum := "cf41a7da2e73e59abb35b20b06098f7366b3e7a668e89e8526c3a25a27e3a8d4", func := "loop.example/belfry/laws.FnTreeHalves", spec := "fnTreeHalves", unfollowed := true, recurses := true, named := ["encoding/binary.BigEndian"], plainKeys := false, apart := false }
def FnTreeHalvesSaid : Prop := fnTreeHalvesRow.holds Try.pinned (OpenSpec.ofChange fnTreeHalvesSpec)

/-- ITS FALSE NEIGHBOUR: 'it returns false'. Refute it at one input. -/
def fnTreeHalvesWrong : ChangeSpec := { name := "fnTreeHalves", fn := fun _ => fun
  | [d] => { results := [.lit (.bool false)], args := [d] }
  | _ => none }
def FnTreeHalvesWrongFalsely : Prop := fnTreeHalvesRow.holds Try.pinned (OpenSpec.ofChange fnTreeHalvesWrong)

/-- 'laws.FnExactPeaksAdd': WHATEVER THE INPUT: true; the input reads as it did. -/
def fnExactPeaksAddSpec : ChangeSpec := { name := "fnExactPeaksAdd", fn := fun _ => fun
  | [d1, d2, d3] => { results := [.lit (.bool true)], args := [d1, d2, d3] }
  | _ => none }
def fnExactPeaksAddRow : OpenClaim := { program := "ytemfciflhbhobaa", sum := "cf41a7da2e73e59abb35b20b06098f7366b3e7a668e89e8526c3a25a27e3a8d4", func := "loop.example/belfry/laws.FnExactPeaksAdd", spec := "fnExactPeaksAdd", unfollowed := true, recurses := true, named := ["encoding/binary.BigEndian"], plainKeys := false, apart := false }
def FnExactPeaksAddSaid : Prop := fnExactPeaksAddRow.holds Try.pinned (OpenSpec.ofChange fnExactPeaksAddSpec)

/-- ITS FALSE NEIGHBOUR: 'it returns false'. Refute it at one input. -/
def fnExactPeaksAddWrong : ChangeSpec := { name := "fnExactPeaksAdd", fn := fun _ => fun
  | [d1, d2, d3] => { results := [.lit (.bool false)], args := [d1, d2, d3] }
  | _ => none }
def FnExactPeaksAddWrongFalsely : Prop := fnExactPeaksAddRow.holds Try.pinned (OpenSpec.ofChange fnExactPeaksAddWrong)

/-- 'laws.FnExactPathCheck': WHATEVER THE INPUT: true; the input reads as it did. -/
def fnExactPathCheckSpec : ChangeSpec := { name := "fnExactPathCheck", fn := fun _ => fun
  | [d1, d2, d3, d4] => { results := [.lit (.bool true)], args := [d1, d2, d3, d4] }
  | _ => none }
def fnExactPathCheckRow : OpenClaim := { program := "ytemfciflhbhobaa", sum := "cf41a7da2e73e59abb35b20b06098f7366b3e7a668e89e8526c3a25a27e3a8d4", func := "loop.example/belfry/laws.FnExactPathCheck", spec := "fnExactPathCheck", unfollowed := true, recurses := true, named := ["encoding/binary.BigEndian"], plainKeys := false, apart := false }
def FnExactPathCheckSaid : Prop := fnExactPathCheckRow.holds Try.pinned (OpenSpec.ofChange fnExactPathCheckSpec)

/-- ITS FALSE NEIGHBOUR: 'it returns false'. Refute it at one input. -/
def fnExactPathCheckWrong : ChangeSpec := { name := "fnExactPathCheck", fn := fun _ => fun
  | [d1, d2, d3, d4] => { results := [.lit (.bool false)], args := [d1, d2, d3, d4] }
  | _ => none }
def FnExactPathCheckWrongFalsely : Prop := fnExactPathCheckRow.holds Try.pinned (OpenSpec.ofChange fnExactPathCheckWrong)

/-- 'laws.FnExactTreePeaks': WHATEVER THE INPUT: true; the input reads as it did. -/
def fnExactTreePeaksSpec : ChangeSpec := { name := "fnExactTreePeaks", fn := fun _ => fun
  | [d] => { results := [.lit (.bool true)], args := [d] }
  | _ => none }
def fnExactTreePeaksRow : OpenClaim := { program := "ytemfciflhbhobaa", sum := "cf41a7da2e73e59abb35b20b06098f7366b3e7a668e89e8526c3a25a27e3a8d4", func := "loop.example/belfry/laws.FnExactTreePeaks", spec := "fnExactTreePeaks", unfollowed := true, recurses := true, named := ["encoding/binary.BigEndian"], plainKeys := false, apart := false }
def FnExactTreePeaksSaid : Prop := fnExactTreePeaksRow.holds Try.pinned (OpenSpec.ofChange fnExactTreePeaksSpec)

/-- ITS FALSE NEIGHBOUR: 'it returns false'. Refute it at one input. -/
def fnExactTreePeaksWrong : ChangeSpec := { name := "fnExactTreePeaks", fn := fun _ => fun
  | [d] => { results := [.lit (.bool false)], args := [d] }
  | _ => none }
def FnExactTreePeaksWrongFalsely : Prop := fnExactTreePeaksRow.holds Try.pinned (OpenSpec.ofChange fnExactTreePeaksWrong)

/-- 'laws.FnPeaksAdded': WHATEVER THE INPUT: true; the input reads as it did. -/
def fnPeaksAddedSpec : ChangeSpec := { name := "fnPeaksAdded", fn := fun _ => fun
  | [d] => { results := [.lit (.bool true)], args := [d] }
  | _ => none }
def fnPeaksAddedRow : OpenClaim := { program := "ytemfciflhbhobaa", sum := "cf41a7da2e73e59abb35b20b06098f7366b3e7a668e89e8526c3a25a27e3a8d4", func := "loop.example/belfry/laws.FnPeaksAdded", spec := "fnPeaksAdded", unfollowed := true, recurses := true, named := ["encoding/binary.BigEndian"], plainKeys := false, apart := false }
def FnPeaksAddedSaid : Prop := fnPeaksAddedRow.holds Try.pinned (OpenSpec.ofChange fnPeaksAddedSpec)

/-- ITS FALSE NEIGHBOUR: 'it returns false'. Refute it at one input. -/
def fnPeaksAddedWrong : ChangeSpec := { name := "fnPeaksAdded", fn := fun _ => fun
  | [d] => { results := [.lit (.bool false)], args := [d] }
  | _ => none }
def FnPeaksAddedWrongFalsely : Prop := fnPeaksAddedRow.holds Try.pinned (OpenSpec.ofChange fnPeaksAddedWrong)

/-- 'laws.FnExactPathOf': WHATEVER THE INPUT: true; the input reads as it did. -/
def fnExactPathOfSpec : ChangeSpec := { name := "fnExactPathOf", fn := fun _ => fun
  | [d1, d2] => { results := [.lit (.bool true)], args := [d1, d2] }
  | _ => none }
def fnExactPathOfRow : OpenClaim := { program := "ytemfciflhbhobaa", sum := "cf41a7da2e73e59abb35b20b06098f7366b3e7a668e89e8526c3a25a27e3a8d4", func := "loop.example/belfry/laws.FnExactPathOf", spec := "fnExactPathOf", unfollowed := true, recurses := true, named := ["encoding/binary.BigEndian"], plainKeys := false, apart := false }
def FnExactPathOfSaid : Prop := fnExactPathOfRow.holds Try.pinned (OpenSpec.ofChange fnExactPathOfSpec)

/-- ITS FALSE NEIGHBOUR: 'it returns false'. Refute it at one input. -/
def fnExactPathOfWrong : ChangeSpec := { name := "fnExactPathOf", fn := fun _ => fun
  | [d1, d2] => { results := [.lit (.bool false)], args := [d1, d2] }
  | _ => none }
def FnExactPathOfWrongFalsely : Prop := fnExactPathOfRow.holds Try.pinned (OpenSpec.ofChange fnExactPathOfWrong)

/-- 'laws.FnGrowthProves': WHATEVER THE INPUT: true; the input reads as it did. -/
def fnGrowthProvesSpec : ChangeSpec := { name := "fnGrowthProves", fn := fun _ => fun
  | [d] => { results := [.lit (.bool true)], args := [d] }
  | _ => none }
def fnGrowthProvesRow : OpenClaim := { program := "ytemfciflhbhobaa", sum := "cf41a7da2e73e59abb35b20b06098f7366b3e7a668e89e8526c3a25a27e3a8d4", func := "loop.example/belfry/laws.FnGrowthProves", spec := "fnGrowthProves", unfollowed := true, recurses := true, named := ["encoding/binary.BigEndian"], plainKeys := false, apart := false }
def FnGrowthProvesSaid : Prop := fnGrowthProvesRow.holds Try.pinned (OpenSpec.ofChange fnGrowthProvesSpec)

/-- ITS FALSE NEIGHBOUR: 'it returns false'. Refute it at one input. -/
def fnGrowthProvesWrong : ChangeSpec := { name := "fnGrowthProves", fn := fun _ => fun
  | [d] => { results := [.lit (.bool false)], args := [d] }
  | _ => none }
def FnGrowthProvesWrongFalsely : Prop := fnGrowthProvesRow.holds Try.pinned (OpenSpec.ofChange fnGrowthProvesWrong)

/-- 'laws.FnExactClashOfPaths': WHATEVER THE INPUT: true; the input reads as it did. -/
def fnExactClashOfPathsSpec : ChangeSpec := { name := "fnExactClashOfPaths", fn := fun _ => fun
  | [d1, d2, d3, d4, d5, d6] => { results := [.lit (.bool true)], args := [d1, d2, d3, d4, d5, d6] }
  | _ => none }
def fnExactClashOfPathsRow : OpenClaim := { program := "ytemfciflhbhobaa", sum := "cf41a7da2e73e59abb35b20b06098f7366b3e7a668e89e8526c3a25a27e3a8d4", func := "loop.example/belfry/laws.FnExactClashOfPaths", spec := "fnExactClashOfPaths", unfollowed := true, recurses := true, named := ["encoding/binary.BigEndian"], plainKeys := false, apart := false }
def FnExactClashOfPathsSaid : Prop := fnExactClashOfPathsRow.holds Try.pinned (OpenSpec.ofChange fnExactClashOfPathsSpec)

/-- ITS FALSE NEIGHBOUR: 'it returns false'. Refute it at one input. -/
def fnExactClashOfPathsWrong : ChangeSpec := { name := "fnExactClashOfPaths", fn := fun _ => fun
  | [d1, d2, d3, d4, d5, d6] => { results := [.lit (.bool false)], args := [d1, d2, d3, d4, d5, d6] }
  | _ => none }
def FnExactClashOfPathsWrongFalsely : Prop := fnExactClashOfPathsRow.holds Try.pinned (OpenSpec.ofChange fnExactClashOfPathsWrong)

/-- 'laws.FnPeaks': WHATEVER THE INPUT: true; the input reads as it did. -/
def fnPeaksSpec : ChangeSpec := { name := "fnPeaks", fn := fun _ => fun
  | [d] => { results := [.lit (.bool true)], args := [d] }
  | _ => none }
def fnPeaksRow : OpenClaim := { program := "ytemfciflhbhobaa", sum := "cf41a7da2e73e59abb35b20b06098f7366b3e7a668e89e8526c3a25a27e3a8d4", func := "loop.example/belfry/laws.FnPeaks", spec := "fnPeaks", unfollowed := true, recurses := true, named := ["encoding/binary.BigEndian"], plainKeys := false, apart := false }
def FnPeaksSaid : Prop := fnPeaksRow.holds Try.pinned (OpenSpec.ofChange fnPeaksSpec)

/-- ITS FALSE NEIGHBOUR: 'it returns false'. Refute it at one input. -/
def fnPeaksWrong : ChangeSpec := { name := "fnPeaks", fn := fun _ => fun
  | [d] => { results := [.lit (.bool false)], args := [d] }
  | _ => none }
def FnPeaksWrongFalsely : Prop := fnPeaksRow.holds Try.pinned (OpenSpec.ofChange fnPeaksWrong)

/-- 'laws.FnExactClashRow': WHATEVER THE INPUT: true; the input reads as it did. -/
def fnExactClashRowSpec : ChangeSpec := { name := "fnExactClashRow", fn := fun _ => fun
  | [d1, d2, d3, d4] => { results := [.lit (.bool true)], args := [d1, d2, d3, d4] }
  | _ => none }
def fnExactClashRowRow : OpenClaim := { program := "ytemfciflhbhobaa", sum := "cf41a7da2e73e59abb35b20b06098f7366b3e7a668e89e8526c3a25a27e3a8d4", func := "loop.example/belfry/laws.FnExactClashRow", spec := "fnExactClashRow", unfollowed := true, recurses := true, named := ["encoding/binary.BigEndian"], plainKeys := false, apart := false }
def FnExactClashRowSaid : Prop := fnExactClashRowRow.holds Try.pinned (OpenSpec.ofChange fnExactClashRowSpec)

/-- ITS FALSE NEIGHBOUR: 'it returns false'. Refute it at one input. -/
def fnExactClashRowWrong : ChangeSpec := { name := "fnExactClashRow", fn := fun _ => fun
  | [d1, d2, d3, d4] => { results := [.lit (.bool false)], args := [d1, d2, d3, d4] }
  | _ => none }
def FnExactClashRowWrongFalsely : Prop := fnExactClashRowRow.holds Try.pinned (OpenSpec.ofChange fnExactClashRowWrong)

/-- 'laws.FnPathProves': WHATEVER THE INPUT: true; the input reads as it did. -/
def fnPathProvesSpec : ChangeSpec := { name := "fnPathProves", fn := fun _ => fun
  | [d] => { results := [.lit (.bool true)], args := [d] }
  | _ => none }
def fnPathProvesRow : OpenClaim := { program := "ytemfciflhbhobaa", sum := "cf41a7da2e73e59abb35b20b06098f7366b3e7a668e89e8526c3a25a27e3a8d4", func := "loop.example/belfry/laws.FnPathProves", spec := "fnPathProves", unfollowed := true, recurses := true, named := ["encoding/binary.BigEndian"], plainKeys := false, apart := false }
def FnPathProvesSaid : Prop := fnPathProvesRow.holds Try.pinned (OpenSpec.ofChange fnPathProvesSpec)

/-- ITS FALSE NEIGHBOUR: 'it returns false'. Refute it at one input. -/
def fnPathProvesWrong : ChangeSpec := { name := "fnPathProves", fn := fun _ => fun
  | [d] => { results := [.lit (.bool false)], args := [d] }
  | _ => none }
def FnPathProvesWrongFalsely : Prop := fnPathProvesRow.holds Try.pinned (OpenSpec.ofChange fnPathProvesWrong)

/-- 'laws.FnExactGrowthOf': WHATEVER THE INPUT: true; the input reads as it did. -/
def fnExactGrowthOfSpec : ChangeSpec := { name := "fnExactGrowthOf", fn := fun _ => fun
  | [d1, d2] => { results := [.lit (.bool true)], args := [d1, d2] }
  | _ => none }
def fnExactGrowthOfRow : OpenClaim := { program := "ytemfciflhbhobaa", sum := "cf41a7da2e73e59abb35b20b06098f7366b3e7a668e89e8526c3a25a27e3a8d4", func := "loop.example/belfry/laws.FnExactGrowthOf", spec := "fnExactGrowthOf", unfollowed := true, recurses := true, named := ["encoding/binary.BigEndian"], plainKeys := false, apart := false }
def FnExactGrowthOfSaid : Prop := fnExactGrowthOfRow.holds Try.pinned (OpenSpec.ofChange fnExactGrowthOfSpec)

/-- ITS FALSE NEIGHBOUR: 'it returns false'. Refute it at one input. -/
def fnExactGrowthOfWrong : ChangeSpec := { name := "fnExactGrowthOf", fn := fun _ => fun
  | [d1, d2] => { results := [.lit (.bool false)], args := [d1, d2] }
  | _ => none }
def FnExactGrowthOfWrongFalsely : Prop := fnExactGrowthOfRow.holds Try.pinned (OpenSpec.ofChange fnExactGrowthOfWrong)

/-- 'laws.FnExactGrowthCheck': WHATEVER THE INPUT: true; the input reads as it did. -/
def fnExactGrowthCheckSpec : ChangeSpec := { name := "fnExactGrowthCheck", fn := fun _ => fun
  | [d1, d2, d3] => { results := [.lit (.bool true)], args := [d1, d2, d3] }
  | _ => none }
def fnExactGrowthCheckRow : OpenClaim := { program := "ytemfciflhbhobaa", sum := "cf41a7da2e73e59abb35b20b06098f7366b3e7a668e89e8526c3a25a27e3a8d4", func := "loop.example/belfry/laws.FnExactGrowthCheck", spec := "fnExactGrowthCheck", unfollowed := true, recurses := true, named := ["encoding/binary.BigEndian"], plainKeys := false, apart := false }
def FnExactGrowthCheckSaid : Prop := fnExactGrowthCheckRow.holds Try.pinned (OpenSpec.ofChange fnExactGrowthCheckSpec)

/-- ITS FALSE NEIGHBOUR: 'it returns false'. Refute it at one input. -/
def fnExactGrowthCheckWrong : ChangeSpec := { name := "fnExactGrowthCheck", fn := fun _ => fun
  | [d1, d2, d3] => { results := [.lit (.bool false)], args := [d1, d2, d3] }
  | _ => none }
def FnExactGrowthCheckWrongFalsely : Prop := fnExactGrowthCheckRow.holds Try.pinned (OpenSpec.ofChange fnExactGrowthCheckWrong)

/-- 'laws.FnLifted': WHATEVER THE INPUT: true; the input reads as it did. -/
def fnLiftedSpec : ChangeSpec := { name := "fnLifted", fn := fun _ => fun
  | [d] => { results := [.lit (.bool true)], args := [d] }
  | _ => none }
def fnLiftedRow : OpenClaim := { program := "ytemfciflhbhobaa", sum := "cf41a7da2e73e59abb35b20b06098f7366b3e7a668e89e8526c3a25a27e3a8d4", func := "loop.example/belfry/laws.FnLifted", spec := "fnLifted", unfollowed := true, recurses := true, named := ["encoding/binary.BigEndian"], plainKeys := false, apart := false }
def FnLiftedSaid : Prop := fnLiftedRow.holds Try.pinned (OpenSpec.ofChange fnLiftedSpec)

/-- ITS FALSE NEIGHBOUR: 'it returns false'. Refute it at one input. -/
def fnLiftedWrong : ChangeSpec := { name := "fnLifted", fn := fun _ => fun
  | [d] => { results := [.lit (.bool false)], args := [d] }
  | _ => none }
def FnLiftedWrongFalsely : Prop := fnLiftedRow.holds Try.pinned (OpenSpec.ofChange fnLiftedWrong)

/-- 'laws.FnExactGrowthLift': WHATEVER THE INPUT: true; the input reads as it did. -/
def fnExactGrowthLiftSpec : ChangeSpec := { name := "fnExactGrowthLift", fn := fun _ => fun
  | [d1, d2, d3, d4, d5] => { results := [.lit (.bool true)], args := [d1, d2, d3, d4, d5] }
  | _ => none }
def fnExactGrowthLiftRow : OpenClaim := { program := "ytemfciflhbhobaa", sum := "cf41a7da2e73e59abb35b20b06098f7366b3e7a668e89e8526c3a25a27e3a8d4", func := "loop.example/belfry/laws.FnExactGrowthLift", spec := "fnExactGrowthLift", unfollowed := true, recurses := true, named := ["encoding/binary.BigEndian"], plainKeys := false, apart := false }
def FnExactGrowthLiftSaid : Prop := fnExactGrowthLiftRow.holds Try.pinned (OpenSpec.ofChange fnExactGrowthLiftSpec)

/-- ITS FALSE NEIGHBOUR: 'it returns false'. Refute it at one input. -/
def fnExactGrowthLiftWrong : ChangeSpec := { name := "fnExactGrowthLift", fn := fun _ => fun
  | [d1, d2, d3, d4, d5] => { results := [.lit (.bool false)], args := [d1, d2, d3, d4, d5] }
  | _ => none }
def FnExactGrowthLiftWrongFalsely : Prop := fnExactGrowthLiftRow.holds Try.pinned (OpenSpec.ofChange fnExactGrowthLiftWrong)

/- THE SECOND FORM. 'bulk': how many values and letters a reading holds, each counted each time it is reached (what is shared counts as often as it is met; a slice's spare places count too). A statement '..UptoSaid' is the law's where the arguments, and the package variables that the reading takes, are together of bulk at most 1048576: NARROWER than '..Said'. Prove '..Said' where nothing that the law and all that it calls make is longer than what came in: it says more and counts as full. Else prove '..UptoSaid'. A law counts once. -/
mutual
def uptoBulk {H : Type} : DataW H → Nat
  | .lit (.string bytes) => bytes.length + 1
  | .lit _ => 1
  | .nil => 1
  | .ptr d => uptoBulk d + 1
  | .slice elems spare => uptoBulkAll elems + uptoBulkAll spare + 1
  | .agg parts => uptoBulkAll parts + 1
  | .iface _ d => uptoBulk d + 1
  | .map entries => uptoBulkEntries entries + 1
  | .held _ => 1
def uptoBulkAll {H : Type} : List (DataW H) → Nat
  | [] => 0
  | d :: r => uptoBulk d + uptoBulkAll r
def uptoBulkEntries {H : Type} : List (Lit × DataW H) → Nat
  | [] => 0
  | x :: r => uptoBulkEntry x + uptoBulkEntries r
def uptoBulkEntry {H : Type} : Lit × DataW H → Nat
  | (.string bytes, d) => bytes.length + uptoBulk d + 1
  | (_, d) => uptoBulk d + 1
 end
def uptoSmall : (H : Type) → List (DataW H) → Bool := fun _ ds => decide (uptoBulkAll ds ≤ 1048576)
def OpenSpec.upto (s : _root_.Go.ChangeSpec) : _root_.Go.OpenSpec := { _root_.Go.OpenSpec.ofChange s with cond := some uptoSmall }

/-- 'laws.FnExactChainEnd', WHERE WHAT IT READS IS OF BULK AT MOST 1048576: true; the input reads as it did. -/
def fnExactChainEndUptoRow : OpenClaim := { program := "ytemfciflhbhobaa", sum := "cf41a7da2e73e59abb35b20b06098f7366b3e7a668e89e8526c3a25a27e3a8d4", func := "loop.example/belfry/laws.FnExactChainEnd", spec := "fnExactChainEnd", unfollowed := true, recurses := true, named := ["encoding/binary.BigEndian"], plainKeys := false, apart := false, narrowed := true }
def FnExactChainEndUptoSaid : Prop := fnExactChainEndUptoRow.holds Try.pinned (OpenSpec.upto fnExactChainEndSpec)

/-- 'laws.FnExactClashOfGrowth', WHERE WHAT IT READS IS OF BULK AT MOST 1048576: true; the input reads as it did. -/
def fnExactClashOfGrowthUptoRow : OpenClaim := { program := "ytemfciflhbhobaa", sum := "cf41a7da2e73e59abb35b20b06098f7366b3e7a668e89e8526c3a25a27e3a8d4", func := "loop.example/belfry/laws.FnExactClashOfGrowth", spec := "fnExactClashOfGrowth", unfollowed := true, recurses := true, named := ["encoding/binary.BigEndian"], plainKeys := false, apart := false, narrowed := true }
def FnExactClashOfGrowthUptoSaid : Prop := fnExactClashOfGrowthUptoRow.holds Try.pinned (OpenSpec.upto fnExactClashOfGrowthSpec)

/-- 'laws.FnExactClashOfChain', WHERE WHAT IT READS IS OF BULK AT MOST 1048576: true; the input reads as it did. -/
def fnExactClashOfChainUptoRow : OpenClaim := { program := "ytemfciflhbhobaa", sum := "cf41a7da2e73e59abb35b20b06098f7366b3e7a668e89e8526c3a25a27e3a8d4", func := "loop.example/belfry/laws.FnExactClashOfChain", spec := "fnExactClashOfChain", unfollowed := true, recurses := true, named := ["encoding/binary.BigEndian"], plainKeys := false, apart := false, narrowed := true }
def FnExactClashOfChainUptoSaid : Prop := fnExactClashOfChainUptoRow.holds Try.pinned (OpenSpec.upto fnExactClashOfChainSpec)

/-- 'laws.FnExactTreeRoot', WHERE WHAT IT READS IS OF BULK AT MOST 1048576: true; the input reads as it did. -/
def fnExactTreeRootUptoRow : OpenClaim := { program := "ytemfciflhbhobaa", sum := "cf41a7da2e73e59abb35b20b06098f7366b3e7a668e89e8526c3a25a27e3a8d4", func := "loop.example/belfry/laws.FnExactTreeRoot", spec := "fnExactTreeRoot", unfollowed := true, recurses := true, named := ["encoding/binary.BigEndian"], plainKeys := false, apart := false, narrowed := true }
def FnExactTreeRootUptoSaid : Prop := fnExactTreeRootUptoRow.holds Try.pinned (OpenSpec.upto fnExactTreeRootSpec)

/-- 'laws.FnExactTreePoint', WHERE WHAT IT READS IS OF BULK AT MOST 1048576: true; the input reads as it did. -/
def fnExactTreePointUptoRow : OpenClaim := { program := "ytemfciflhbhobaa", sum := "cf41a7da2e73e59abb35b20b06098f7366b3e7a668e89e8526c3a25a27e3a8d4", func := "loop.example/belfry/laws.FnExactTreePoint", spec := "fnExactTreePoint", unfollowed := true, recurses := true, named := ["encoding/binary.BigEndian"], plainKeys := false, apart := false, narrowed := true }
def FnExactTreePointUptoSaid : Prop := fnExactTreePointUptoRow.holds Try.pinned (OpenSpec.upto fnExactTreePointSpec)

/-- 'laws.FnExactPathRoot', WHERE WHAT IT READS IS OF BULK AT MOST 1048576: true; the input reads as it did. -/
def fnExactPathRootUptoRow : OpenClaim := { program := "ytemfciflhbhobaa", sum := "cf41a7da2e73e59abb35b20b06098f7366b3e7a668e89e8526c3a25a27e3a8d4", func := "loop.example/belfry/laws.FnExactPathRoot", spec := "fnExactPathRoot", unfollowed := true, recurses := true, named := ["encoding/binary.BigEndian"], plainKeys := false, apart := false, narrowed := true }
def FnExactPathRootUptoSaid : Prop := fnExactPathRootUptoRow.holds Try.pinned (OpenSpec.upto fnExactPathRootSpec)

/-- 'laws.FnTreeHalves', WHERE WHAT IT READS IS OF BULK AT MOST 1048576: true; the input reads as it did. -/
def fnTreeHalvesUptoRow : OpenClaim := { program := "ytemfciflhbhobaa", sum := "cf41a7da2e73e59abb35b20b06098f7366b3e7a668e89e8526c3a25a27e3a8d4", func := "loop.example/belfry/laws.FnTreeHalves", spec := "fnTreeHalves", unfollowed := true, recurses := true, named := ["encoding/binary.BigEndian"], plainKeys := false, apart := false, narrowed := true }
def FnTreeHalvesUptoSaid : Prop := fnTreeHalvesUptoRow.holds Try.pinned (OpenSpec.upto fnTreeHalvesSpec)

/-- 'laws.FnExactPeaksAdd', WHERE WHAT IT READS IS OF BULK AT MOST 1048576: true; the input reads as it did. -/
def fnExactPeaksAddUptoRow : OpenClaim := { program := "ytemfciflhbhobaa", sum := "cf41a7da2e73e59abb35b20b06098f7366b3e7a668e89e8526c3a25a27e3a8d4", func := "loop.example/belfry/laws.FnExactPeaksAdd", spec := "fnExactPeaksAdd", unfollowed := true, recurses := true, named := ["encoding/binary.BigEndian"], plainKeys := false, apart := false, narrowed := true }
def FnExactPeaksAddUptoSaid : Prop := fnExactPeaksAddUptoRow.holds Try.pinned (OpenSpec.upto fnExactPeaksAddSpec)

/-- 'laws.FnExactPathCheck', WHERE WHAT IT READS IS OF BULK AT MOST 1048576: true; the input reads as it did. -/
def fnExactPathCheckUptoRow : OpenClaim := { program := "ytemfciflhbhobaa", sum := "cf41a7da2e73e59abb35b20b06098f7366b3e7a668e89e8526c3a25a27e3a8d4", func := "loop.example/belfry/laws.FnExactPathCheck", spec := "fnExactPathCheck", unfollowed := true, recurses := true, named := ["encoding/binary.BigEndian"], plainKeys := false, apart := false, narrowed := true }
def FnExactPathCheckUptoSaid : Prop := fnExactPathCheckUptoRow.holds Try.pinned (OpenSpec.upto fnExactPathCheckSpec)

/-- 'laws.FnExactTreePeaks', WHERE WHAT IT READS IS OF BULK AT MOST 1048576: true; the input reads as it did. -/
def fnExactTreePeaksUptoRow : OpenClaim := { program := "ytemfciflhbhobaa", sum := "cf41a7da2e73e59abb35b20b06098f7366b3e7a668e89e8526c3a25a27e3a8d4", func := "loop.example/belfry/laws.FnExactTreePeaks", spec := "fnExactTreePeaks", unfollowed := true, recurses := true, named := ["encoding/binary.BigEndian"], plainKeys := false, apart := false, narrowed := true }
def FnExactTreePeaksUptoSaid : Prop := fnExactTreePeaksUptoRow.holds Try.pinned (OpenSpec.upto fnExactTreePeaksSpec)

/-- 'laws.FnPeaksAdded', WHERE WHAT IT READS IS OF BULK AT MOST 1048576: true; the input reads as it did. -/
def fnPeaksAddedUptoRow : OpenClaim := { program := "ytemfciflhbhobaa", sum := "cf41a7da2e73e59abb35b20b06098f7366b3e7a668e89e8526c3a25a27e3a8d4", func := "loop.example/belfry/laws.FnPeaksAdded", spec := "fnPeaksAdded", unfollowed := true, recurses := true, named := ["encoding/binary.BigEndian"], plainKeys := false, apart := false, narrowed := true }
def FnPeaksAddedUptoSaid : Prop := fnPeaksAddedUptoRow.holds Try.pinned (OpenSpec.upto fnPeaksAddedSpec)

/-- 'laws.FnExactPathOf', WHERE WHAT IT READS IS OF BULK AT MOST 1048576: true; the input reads as it did. -/
def fnExactPathOfUptoRow : OpenClaim := { program := "ytemfciflhbhobaa", sum := "cf41a7da2e73e59abb35b20b06098f7366b3e7a668e89e8526c3a25a27e3a8d4", func := "loop.example/belfry/laws.FnExactPathOf", spec := "fnExactPathOf", unfollowed := true, recurses := true, named := ["encoding/binary.BigEndian"], plainKeys := false, apart := false, narrowed := true }
def FnExactPathOfUptoSaid : Prop := fnExactPathOfUptoRow.holds Try.pinned (OpenSpec.upto fnExactPathOfSpec)

/-- 'laws.FnGrowthProves', WHERE WHAT IT READS IS OF BULK AT MOST 1048576: true; the input reads as it did. -/
def fnGrowthProvesUptoRow : OpenClaim := { program := "ytemfciflhbhobaa", sum := "cf41a7da2e73e59abb35b20b06098f7366b3e7a668e89e8526c3a25a27e3a8d4", func := "loop.example/belfry/laws.FnGrowthProves", spec := "fnGrowthProves", unfollowed := true, recurses := true, named := ["encoding/binary.BigEndian"], plainKeys := false, apart := false, narrowed := true }
def FnGrowthProvesUptoSaid : Prop := fnGrowthProvesUptoRow.holds Try.pinned (OpenSpec.upto fnGrowthProvesSpec)

/-- 'laws.FnExactClashOfPaths', WHERE WHAT IT READS IS OF BULK AT MOST 1048576: true; the input reads as it did. -/
def fnExactClashOfPathsUptoRow : OpenClaim := { program := "ytemfciflhbhobaa", sum := "cf41a7da2e73e59abb35b20b06098f7366b3e7a668e89e8526c3a25a27e3a8d4", func := "loop.example/belfry/laws.FnExactClashOfPaths", spec := "fnExactClashOfPaths", unfollowed := true, recurses := true, named := ["encoding/binary.BigEndian"], plainKeys := false, apart := false, narrowed := true }
def FnExactClashOfPathsUptoSaid : Prop := fnExactClashOfPathsUptoRow.holds Try.pinned (OpenSpec.upto fnExactClashOfPathsSpec)

/-- 'laws.FnPeaks', WHERE WHAT IT READS IS OF BULK AT MOST 1048576: true; the input reads as it did. -/
def fnPeaksUptoRow : OpenClaim := { program := "ytemfciflhbhobaa", sum := "cf41a7da2e73e59abb35b20b06098f7366b3e7a668e89e8526c3a25a27e3a8d4", func := "loop.example/belfry/laws.FnPeaks", spec := "fnPeaks", unfollowed := true, recurses := true, named := ["encoding/binary.BigEndian"], plainKeys := false, apart := false, narrowed := true }
def FnPeaksUptoSaid : Prop := fnPeaksUptoRow.holds Try.pinned (OpenSpec.upto fnPeaksSpec)

/-- 'laws.FnExactClashRow', WHERE WHAT IT READS IS OF BULK AT MOST 1048576: true; the input reads as it did. -/
def fnExactClashRowUptoRow : OpenClaim := { program := "ytemfciflhbhobaa", sum := "cf41a7da2e73e59abb35b20b06098f7366b3e7a668e89e8526c3a25a27e3a8d4", func := "loop.example/belfry/laws.FnExactClashRow", spec := "fnExactClashRow", unfollowed := true, recurses := true, named := ["encoding/binary.BigEndian"], plainKeys := false, apart := false, narrowed := true }
def FnExactClashRowUptoSaid : Prop := fnExactClashRowUptoRow.holds Try.pinned (OpenSpec.upto fnExactClashRowSpec)

/-- 'laws.FnPathProves', WHERE WHAT IT READS IS OF BULK AT MOST 1048576: true; the input reads as it did. -/
def fnPathProvesUptoRow : OpenClaim := { program := "ytemfciflhbhobaa", sum := "cf41a7da2e73e59abb35b20b06098f7366b3e7a668e89e8526c3a25a27e3a8d4", func := "loop.example/belfry/laws.FnPathProves", spec := "fnPathProves", unfollowed := true, recurses := true, named := ["encoding/binary.BigEndian"], plainKeys := false, apart := false, narrowed := true }
def FnPathProvesUptoSaid : Prop := fnPathProvesUptoRow.holds Try.pinned (OpenSpec.upto fnPathProvesSpec)

/-- 'laws.FnExactGrowthOf', WHERE WHAT IT READS IS OF BULK AT MOST 1048576: true; the input reads as it did. -/
def fnExactGrowthOfUptoRow : OpenClaim := { program := "ytemfciflhbhobaa", sum := "cf41a7da2e73e59abb35b20b06098f7366b3e7a668e89e8526c3a25a27e3a8d4", func := "loop.example/belfry/laws.FnExactGrowthOf", spec := "fnExactGrowthOf", unfollowed := true, recurses := true, named := ["encoding/binary.BigEndian"], plainKeys := false, apart := false, narrowed := true }
def FnExactGrowthOfUptoSaid : Prop := fnExactGrowthOfUptoRow.holds Try.pinned (OpenSpec.upto fnExactGrowthOfSpec)

/-- 'laws.FnExactGrowthCheck', WHERE WHAT IT READS IS OF BULK AT MOST 1048576: true; the input reads as it did. -/
def fnExactGrowthCheckUptoRow : OpenClaim := { program := "ytemfciflhbhobaa", sum := "cf41a7da2e73e59abb35b20b06098f7366b3e7a668e89e8526c3a25a27e3a8d4", func := "loop.example/belfry/laws.FnExactGrowthCheck", spec := "fnExactGrowthCheck", unfollowed := true, recurses := true, named := ["encoding/binary.BigEndian"], plainKeys := false, apart := false, narrowed := true }
def FnExactGrowthCheckUptoSaid : Prop := fnExactGrowthCheckUptoRow.holds Try.pinned (OpenSpec.upto fnExactGrowthCheckSpec)

/-- 'laws.FnLifted', WHERE WHAT IT READS IS OF BULK AT MOST 1048576: true; the input reads as it did. -/
def fnLiftedUptoRow : OpenClaim := { program := "ytemfciflhbhobaa", sum := "cf41a7da2e73e59abb35b20b06098f7366b3e7a668e89e8526c3a25a27e3a8d4", func := "loop.example/belfry/laws.FnLifted", spec := "fnLifted", unfollowed := true, recurses := true, named := ["encoding/binary.BigEndian"], plainKeys := false, apart := false, narrowed := true }
def FnLiftedUptoSaid : Prop := fnLiftedUptoRow.holds Try.pinned (OpenSpec.upto fnLiftedSpec)

/-- 'laws.FnExactGrowthLift', WHERE WHAT IT READS IS OF BULK AT MOST 1048576: true; the input reads as it did. -/
def fnExactGrowthLiftUptoRow : OpenClaim := { program := "ytemfciflhbhobaa", sum := "cf41a7da2e73e59abb35b20b06098f7366b3e7a668e89e8526c3a25a27e3a8d4", func := "loop.example/belfry/laws.FnExactGrowthLift", spec := "fnExactGrowthLift", unfollowed := true, recurses := true, named := ["encoding/binary.BigEndian"], plainKeys := false, apart := false, narrowed := true }
def FnExactGrowthLiftUptoSaid : Prop := fnExactGrowthLiftUptoRow.holds Try.pinned (OpenSpec.upto fnExactGrowthLiftSpec)

end Rows
end Go.Proofs.Ytemfciflhbhobaa
