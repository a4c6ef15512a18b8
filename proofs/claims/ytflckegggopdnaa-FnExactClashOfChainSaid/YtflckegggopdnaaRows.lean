/-
  No cell of these rows narrows 'for every input' (looked for: loops, veiled, ifaces, maps, wideKeys, modest, calm, conditions, laid).
  DERIVED. THE GIVEN ROWS OF THIS SEAT. 7 by the template 'for every input the law returns true; each argument reads behind the call as it read before'; 0 by the template 'total and deterministic' (their statements: YtflckegggopdnaaTotals.lean).
  GIVEN WITH THE SEED: the statements are not yours to turn. If you find one false, say at which input.
  Laid BY PROGRAM, IN A SANDBOX (cutbox-rows.mjs): the forced cells as the released guide's own fill.sh prints them over the translation bf5dbef1818771bd… (all of the seat's roots in one cut). By AI agents, Wed Nov 11 2026. No macro, syntax, notation, axiom, sorry.
-/
import Derived.Test.YtflckegggopdnaaChecked
import GoSem.Claim
import GoSem.ClaimJoined
import GoSem.ClaimMapViews
import Derived.JoinedTies
import Derived.KernelRfl
namespace Go.Proofs.Ytflckegggopdnaa
/- THE CELL 'sum', in the pinned program and in every row, IS THE sha256 OF THE DUMP (.gsa) THAT YtflckegggopdnaaProg.lean LOADS. Nothing in Lean hashes anything: it is a label: what it is worth is what the hold of that sum in a sandbox is worth. -/
noncomputable def Try.pinned : Pinned := { name := "ytflckegggopdnaa", sum := "bf5dbef1818771bda476161cf7d52b9025c93dc1d9da415a3e3420aaf57307e8", checked := Try.checked }
namespace Rows
def none {H : Type} : Left H := { results := [], args := [] }

/-- 'laws.FnExactChainEnd': WHATEVER THE INPUT: true; the input reads as it did. -/
def fnExactChainEndSpec : ChangeSpec := { name := "fnExactChainEnd", fn := fun _ => fun
  | [d1, d2] => { results := [.lit (.bool true)], args := [d1, d2] }
  | _ => none }
def fnExactChainEndRow : OpenClaim := { program := "ytflckegggopdnaa", sum := "bf5dbef1818771bda476161cf7d52b9025c93dc1d9da415a3e3420aaf57307e8", func := "loop.example/belfry/laws.FnExactChainEnd", spec := "fnExactChainEnd", unfollowed := true, recurses := true, named := ["encoding/binary.BigEndian"], plainKeys := false, apart := false }
def FnExactChainEndSaid : Prop := fnExactChainEndRow.holds Try.pinned (OpenSpec.ofChange fnExactChainEndSpec)

/-- ITS FALSE NEIGHBOUR: 'it returns false'. Refute it at one input. -/
def fnExactChainEndWrong : ChangeSpec := { name := "fnExactChainEnd", fn := fun _ => fun
  | [d1, d2] => { results := [.lit (.bool false)], args := [d1, d2] }
  | _ => none }
def FnExactChainEndWrongFalsely : Prop := fnExactChainEndRow.holds Try.pinned (OpenSpec.ofChange fnExactChainEndWrong)

/-- 'laws.FnExactClashOfGrowth': WHATEVER THE INPUT: true; the input reads as it did. -/
def fnExactClashOfGrowthSpec : ChangeSpec := { name := "fnExactClashOfGrowth", fn := fun _ => fun
  | [d1, d2, d3, d4, d5] => { results := [.lit (.bool true)], args := [d1, d2, d3, d4, d5] }
  | _ => none }
def fnExactClashOfGrowthRow : OpenClaim := { program := "ytflckegggopdnaa", sum := "bf5dbef1818771bda476161cf7d52b9025c93dc1d9da415a3e3420aaf57307e8", func := "loop.example/belfry/laws.FnExactClashOfGrowth", spec := "fnExactClashOfGrowth", unfollowed := true, recurses := true, named := ["encoding/binary.BigEndian"], plainKeys := false, apart := false }
def FnExactClashOfGrowthSaid : Prop := fnExactClashOfGrowthRow.holds Try.pinned (OpenSpec.ofChange fnExactClashOfGrowthSpec)

/-- ITS FALSE NEIGHBOUR: 'it returns false'. Refute it at one input. -/
def fnExactClashOfGrowthWrong : ChangeSpec := { name := "fnExactClashOfGrowth", fn := fun _ => fun
  | [d1, d2, d3, d4, d5] => { results := [.lit (.bool false)], args := [d1, d2, d3, d4, d5] }
  | _ => none }
def FnExactClashOfGrowthWrongFalsely : Prop := fnExactClashOfGrowthRow.holds Try.pinned (OpenSpec.ofChange fnExactClashOfGrowthWrong)

/-- 'laws.FnExactClashOfChain': WHATEVER THE INPUT: true; the input reads as it did. -/
def fnExactClashOfChainSpec : ChangeSpec := { name := "fnExactClashOfChain", fn := fun _ => fun
  | [d1, d2, d3, d4, d5, d6, d7] => { results := [.lit (.bool true)], args := [d1, d2, d3, d4, d5, d6, d7] }
  | _ => none }
def fnExactClashOfChainRow : OpenClaim := { program := "ytflckegggopdnaa", sum := "bf5dbef1818771bda476161cf7d52b9025c93dc1d9da415a3e3420aaf57307e8", func := "loop.example/belfry/laws.FnExactClashOfChain", spec := "fnExactClashOfChain", unfollowed := true, recurses := true, named := ["encoding/binary.BigEndian"], plainKeys := false, apart := false }
def FnExactClashOfChainSaid : Prop := fnExactClashOfChainRow.holds Try.pinned (OpenSpec.ofChange fnExactClashOfChainSpec)

/-- ITS FALSE NEIGHBOUR: 'it returns false'. Refute it at one input. -/
def fnExactClashOfChainWrong : ChangeSpec := { name := "fnExactClashOfChain", fn := fun _ => fun
  | [d1, d2, d3, d4, d5, d6, d7] => { results := [.lit (.bool false)], args := [d1, d2, d3, d4, d5, d6, d7] }
  | _ => none }
def FnExactClashOfChainWrongFalsely : Prop := fnExactClashOfChainRow.holds Try.pinned (OpenSpec.ofChange fnExactClashOfChainWrong)

/-- 'laws.FnGrowthProves': WHATEVER THE INPUT: true; the input reads as it did. -/
def fnGrowthProvesSpec : ChangeSpec := { name := "fnGrowthProves", fn := fun _ => fun
  | [d] => { results := [.lit (.bool true)], args := [d] }
  | _ => none }
def fnGrowthProvesRow : OpenClaim := { program := "ytflckegggopdnaa", sum := "bf5dbef1818771bda476161cf7d52b9025c93dc1d9da415a3e3420aaf57307e8", func := "loop.example/belfry/laws.FnGrowthProves", spec := "fnGrowthProves", unfollowed := true, recurses := true, named := ["encoding/binary.BigEndian"], plainKeys := false, apart := false }
def FnGrowthProvesSaid : Prop := fnGrowthProvesRow.holds Try.pinned (OpenSpec.ofChange fnGrowthProvesSpec)

/-- ITS FALSE NEIGHBOUR: 'it returns false'. Refute it at one input. -/
def fnGrowthProvesWrong : ChangeSpec := { name := "fnGrowthProves", fn := fun _ => fun
  | [d] => { results := [.lit (.bool false)], args := [d] }
  | _ => none }
def FnGrowthProvesWrongFalsely : Prop := fnGrowthProvesRow.holds Try.pinned (OpenSpec.ofChange fnGrowthProvesWrong)

/-- 'laws.FnExactGrowthCheck': WHATEVER THE INPUT: true; the input reads as it did. -/
def fnExactGrowthCheckSpec : ChangeSpec := { name := "fnExactGrowthCheck", fn := fun _ => fun
  | [d1, d2, d3] => { results := [.lit (.bool true)], args := [d1, d2, d3] }
  | _ => none }
def fnExactGrowthCheckRow : OpenClaim := { program := "ytflckegggopdnaa", sum := "bf5dbef1818771bda476161cf7d52b9025c93dc1d9da415a3e3420aaf57307e8", func := "loop.example/belfry/laws.FnExactGrowthCheck", spec := "fnExactGrowthCheck", unfollowed := true, recurses := true, named := ["encoding/binary.BigEndian"], plainKeys := false, apart := false }
def FnExactGrowthCheckSaid : Prop := fnExactGrowthCheckRow.holds Try.pinned (OpenSpec.ofChange fnExactGrowthCheckSpec)

/-- ITS FALSE NEIGHBOUR: 'it returns false'. Refute it at one input. -/
def fnExactGrowthCheckWrong : ChangeSpec := { name := "fnExactGrowthCheck", fn := fun _ => fun
  | [d1, d2, d3] => { results := [.lit (.bool false)], args := [d1, d2, d3] }
  | _ => none }
def FnExactGrowthCheckWrongFalsely : Prop := fnExactGrowthCheckRow.holds Try.pinned (OpenSpec.ofChange fnExactGrowthCheckWrong)

/-- 'laws.FnLifted': WHATEVER THE INPUT: true; the input reads as it did. -/
def fnLiftedSpec : ChangeSpec := { name := "fnLifted", fn := fun _ => fun
  | [d] => { results := [.lit (.bool true)], args := [d] }
  | _ => none }
def fnLiftedRow : OpenClaim := { program := "ytflckegggopdnaa", sum := "bf5dbef1818771bda476161cf7d52b9025c93dc1d9da415a3e3420aaf57307e8", func := "loop.example/belfry/laws.FnLifted", spec := "fnLifted", unfollowed := true, recurses := true, named := ["encoding/binary.BigEndian"], plainKeys := false, apart := false }
def FnLiftedSaid : Prop := fnLiftedRow.holds Try.pinned (OpenSpec.ofChange fnLiftedSpec)

/-- ITS FALSE NEIGHBOUR: 'it returns false'. Refute it at one input. -/
def fnLiftedWrong : ChangeSpec := { name := "fnLifted", fn := fun _ => fun
  | [d] => { results := [.lit (.bool false)], args := [d] }
  | _ => none }
def FnLiftedWrongFalsely : Prop := fnLiftedRow.holds Try.pinned (OpenSpec.ofChange fnLiftedWrong)

/-- 'laws.FnExactGrowthLift': WHATEVER THE INPUT: true; the input reads as it did. -/
def fnExactGrowthLiftSpec : ChangeSpec := { name := "fnExactGrowthLift", fn := fun _ => fun
  | [d1, d2, d3, d4, d5] => { results := [.lit (.bool true)], args := [d1, d2, d3, d4, d5] }
  | _ => none }
def fnExactGrowthLiftRow : OpenClaim := { program := "ytflckegggopdnaa", sum := "bf5dbef1818771bda476161cf7d52b9025c93dc1d9da415a3e3420aaf57307e8", func := "loop.example/belfry/laws.FnExactGrowthLift", spec := "fnExactGrowthLift", unfollowed := true, recurses := true, named := ["encoding/binary.BigEndian"], plainKeys := false, apart := false }
def FnExactGrowthLiftSaid : Prop := fnExactGrowthLiftRow.holds Try.pinned (OpenSpec.ofChange fnExactGrowthLiftSpec)

/-- ITS FALSE NEIGHBOUR: 'it returns false'. Refute it at one input. -/
def fnExactGrowthLiftWrong : ChangeSpec := { name := "fnExactGrowthLift", fn := fun _ => fun
  | [d1, d2, d3, d4, d5] => { results := [.lit (.bool false)], args := [d1, d2, d3, d4, d5] }
  | _ => none }
def FnExactGrowthLiftWrongFalsely : Prop := fnExactGrowthLiftRow.holds Try.pinned (OpenSpec.ofChange fnExactGrowthLiftWrong)

/- THE SECOND FORM. 'bulk': how many values and letters a reading holds, each counted each time it is reached (what is shared counts as often as it is met; a slice's spare places count too). A statement '..UptoSaid' is the law's where the arguments, and the package variables that the reading takes, are together of bulk at most 1048576: NARROWER than '..Said'. Prove '..Said' where nothing that the law and all that it calls make is longer than what came in: it says more and counts as full. Else prove '..UptoSaid'. A law counts once. -/
mutual
def uptoBulk {H : Type} : DataW H → Nat
  | .lit (.string bytes) => bytes.length + 1
  | .lit _ => 1
  | .nil => 1
  | .ptr d => uptoBulk d + 1
  | .slice elems spare => uptoBulkAll elems + uptoBulkAll spare + 1
  | .agg parts => uptoBulkAll parts + 1
  | .iface _ d => uptoBulk d + 1
  | .map entries => uptoBulkEntries entries + 1
  | .held _ => 1
def uptoBulkAll {H : Type} : List (DataW H) → Nat
  | [] => 0
  | d :: r => uptoBulk d + uptoBulkAll r
def uptoBulkEntries {H : Type} : List (Lit × DataW H) → Nat
  | [] => 0
  | x :: r => uptoBulkEntry x + uptoBulkEntries r
def uptoBulkEntry {H : Type} : Lit × DataW H → Nat
  | (.string bytes, d) => bytes.length + uptoBulk d + 1
  | (_, d) => uptoBulk d + 1
 end
def uptoSmall : (H : Type) → List (DataW H) → Bool := fun _ ds => decide (uptoBulkAll ds ≤ 1048576)
def OpenSpec.upto (s : _root_.Go.ChangeSpec) : _root_.Go.OpenSpec := { _root_.Go.OpenSpec.ofChange s with cond := some uptoSmall }

/-- 'laws.FnExactChainEnd', WHERE WHAT IT READS IS OF BULK AT MOST 1048576: true; the input reads as it did. -/
def fnExactChainEndUptoRow : OpenClaim := { program := "ytflckegggopdnaa", sum := "bf5dbef1818771bda476161cf7d52b9025c93dc1d9da415a3e3420aaf57307e8", func := "loop.example/belfry/laws.FnExactChainEnd", spec := "fnExactChainEnd", unfollowed := true, recurses := true, named := ["encoding/binary.BigEndian"], plainKeys := false, apart := false, narrowed := true }
def FnExactChainEndUptoSaid : Prop := fnExactChainEndUptoRow.holds Try.pinned (OpenSpec.upto fnExactChainEndSpec)

/-- 'laws.FnExactClashOfGrowth', WHERE WHAT IT READS IS OF BULK AT MOST 1048576: true; the input reads as it did. -/
def fnExactClashOfGrowthUptoRow : OpenClaim := { program := "ytflckegggopdnaa", sum := "bf5dbef1818771bda476161cf7d52b9025c93dc1d9da415a3e3420aaf57307e8", func := "loop.example/belfry/laws.FnExactClashOfGrowth", spec := "fnExactClashOfGrowth", unfollowed := true, recurses := true, named := ["encoding/binary.BigEndian"], plainKeys := false, apart := false, narrowed := true }
def FnExactClashOfGrowthUptoSaid : Prop := fnExactClashOfGrowthUptoRow.holds Try.pinned (OpenSpec.upto fnExactClashOfGrowthSpec)

/-- 'laws.FnExactClashOfChain', WHERE WHAT IT READS IS OF BULK AT MOST 1048576: true; the input reads as it did. -/
def fnExactClashOfChainUptoRow : OpenClaim := { program := "ytflckegggopdnaa", sum := "bf5dbef1818771bda476161cf7d52b9025c93dc1d9da415a3e3420aaf57307e8", func := "loop.example/belfry/laws.FnExactClashOfChain", spec := "fnExactClashOfChain", unfollowed := true, recurses := true, named := ["encoding/binary.BigEndian"], plainKeys := false, apart := false, narrowed := true }
def FnExactClashOfChainUptoSaid : Prop := fnExactClashOfChainUptoRow.holds Try.pinned (OpenSpec.upto fnExactClashOfChainSpec)

/-- 'laws.FnGrowthProves', WHERE WHAT IT READS IS OF BULK AT MOST 1048576: true; the input reads as it did. -/
def fnGrowthProvesUptoRow : OpenClaim := { program := "ytflckegggopdnaa", sum := "bf5dbef1818771bda476161cf7d52b9025c93dc1d9da415a3e3420aaf57307e8", func := "loop.example/belfry/laws.FnGrowthProves", spec := "fnGrowthProves", unfollowed := true, recurses := true, named := ["encoding/binary.BigEndian"], plainKeys := false, apart := false, narrowed := true }
def FnGrowthProvesUptoSaid : Prop := fnGrowthProvesUptoRow.holds Try.pinned (OpenSpec.upto fnGrowthProvesSpec)

/-- 'laws.FnExactGrowthCheck', WHERE WHAT IT READS IS OF BULK AT MOST 1048576: true; the input reads as it did. -/
def fnExactGrowthCheckUptoRow : OpenClaim := { program := "ytflckegggopdnaa", sum := "bf5dbef1818771bda476161cf7d52b9025c93dc1d9da415a3e3420aaf57307e8", func := "loop.example/belfry/laws.FnExactGrowthCheck", spec := "fnExactGrowthCheck", unfollowed := true, recurses := true, named := ["encoding/binary.BigEndian"], plainKeys := false, apart := false, narrowed := true }
def FnExactGrowthCheckUptoSaid : Prop := fnExactGrowthCheckUptoRow.holds Try.pinned (OpenSpec.upto fnExactGrowthCheckSpec)

/-- 'laws.FnLifted', WHERE WHAT IT READS IS OF BULK AT MOST 1048576: true; the input reads as it did. -/
def fnLiftedUptoRow : OpenClaim := { program := "ytflckegggopdnaa", sum := "bf5dbef1818771bda476161cf7d52b9025c93dc1d9da415a3e3420aaf57307e8", func := "loop.example/belfry/laws.FnLifted", spec := "fnLifted", unfollowed := true, recurses := true, named := ["encoding/binary.BigEndian"], plainKeys := false, apart := false, narrowed := true }
def FnLiftedUptoSaid : Prop := fnLiftedUptoRow.holds Try.pinned (OpenSpec.upto fnLiftedSpec)

/-- 'laws.FnExactGrowthLift', WHERE WHAT IT READS IS OF BULK AT MOST 1048576: true; the input reads as it did. -/
def fnExactGrowthLiftUptoRow : OpenClaim := { program := "ytflckegggopdnaa", sum := "bf5dbef1818771bda476161cf7d52b9025c93dc1d9da415a3e3420aaf57307e8", func := "loop.example/belfry/laws.FnExactGrowthLift", spec := "fnExactGrowthLift", unfollowed := true, recurses := true, named := ["encoding/binary.BigEndian"], plainKeys := false, apart := false, narrowed := true }
def FnExactGrowthLiftUptoSaid : Prop := fnExactGrowthLiftUptoRow.holds Try.pinned (OpenSpec.upto fnExactGrowthLiftSpec)

end Rows
end Go.Proofs.Ytflckegggopdnaa
