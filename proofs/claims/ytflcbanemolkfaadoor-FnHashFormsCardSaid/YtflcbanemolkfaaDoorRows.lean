/-
  NARROWER THAN 'FOR EVERY INPUT', by the rows' own cells (each row's printed sentence says how): FnExactHashRead: laid · FnHashForms: laid.
  DERIVED. THE GIVEN ROWS OF THIS SEAT. 2 by the template 'for every input the law returns true; each argument reads behind the call as it read before'; 0 by the template 'total and deterministic' (their statements: YtflcbanemolkfaaDoorTotals.lean).
  GIVEN WITH THE SEED: the statements are not yours to turn. If you find one false, say at which input.
  Laid BY PROGRAM, IN A SANDBOX (cutbox-rows.mjs): the forced cells as the released guide's own fill.sh prints them over the translation db649180b98ffda4… (all of the seat's roots in one cut). By AI agents, Wed Nov 11 2026. No macro, syntax, notation, axiom, sorry.
-/
import Derived.Test.YtflcbanemolkfaaDoorChecked
import GoSem.Claim
import GoSem.ClaimJoined
import GoSem.ClaimMapViews
import Derived.JoinedTies
import Derived.KernelRfl
namespace Go.Proofs.YtflcbanemolkfaaDoor
/- THE CELL 'sum', in the pinned program and in every row, IS THE sha256 OF THE DUMP (.gsa) THAT YtflcbanemolkfaaDoorProg.lean LOADS. Nothing in Lean hashes anything: it is a label: what it is worth is what the hold of that sum in a sandbox is worth. -/
noncomputable def Tryd.pinned : Pinned := { name := "ytflcbanemolkfaadoor", sum := "db649180b98ffda481fc2f9db30cb01f4e49fad920a673f7307c6d51a74a5dce", checked := Tryd.checked }
namespace Rows
def none {H : Type} : Left H := { results := [], args := [] }

/- WHAT THE LISTED PACKAGE-LEVEL VARIABLES READ AS WHEN THE CALL BEGINS. Each datum BY PROGRAM (the guide's laid-datum.mjs) off the statement by which the dump's own 'gosem.cut.vars' lays the variable. In a bare row this is a premise. The card (YtflcbanemolkfaaDoorCards.lean) ties it to the program's text. -/
def laid_encoding_hex_ErrLength {H : Type} : DataW H := .iface "*errors.errorString" (.ptr (.agg [.lit (.string [101, 110, 99, 111, 100, 105, 110, 103, 47, 104, 101, 120, 58, 32, 111, 100, 100, 32, 108, 101, 110, 103, 116, 104, 32, 104, 101, 120, 32, 115, 116, 114, 105, 110, 103])]))

/-- 'laws.FnExactHashRead': WHATEVER THE INPUT: true; the input reads as it did. -/
def fnExactHashReadSpec : ChangeSpec := { name := "fnExactHashRead", fn := fun _ => fun
  | [d] => { results := [.lit (.bool true)], args := [d] }
  | _ => none }
def fnExactHashReadRow : OpenClaim := { program := "ytflcbanemolkfaadoor", sum := "db649180b98ffda481fc2f9db30cb01f4e49fad920a673f7307c6d51a74a5dce", func := "loop.example/belfry/laws.FnExactHashRead", spec := "fnExactHashRead", unfollowed := true, recurses := true, named := ["encoding/hex.ErrLength", "encoding/binary.BigEndian"], apart := false, laid := [("encoding/hex.ErrLength", laid_encoding_hex_ErrLength)] }
def FnExactHashReadSaid : Prop := fnExactHashReadRow.holds Tryd.pinned (OpenSpec.ofChange fnExactHashReadSpec)

/-- ITS FALSE NEIGHBOUR: 'it returns false'. Refute it at one input. -/
def fnExactHashReadWrong : ChangeSpec := { name := "fnExactHashRead", fn := fun _ => fun
  | [d] => { results := [.lit (.bool false)], args := [d] }
  | _ => none }
def FnExactHashReadWrongFalsely : Prop := fnExactHashReadRow.holds Tryd.pinned (OpenSpec.ofChange fnExactHashReadWrong)

/-- 'laws.FnHashForms': WHATEVER THE INPUT: true; the input reads as it did. -/
def fnHashFormsSpec : ChangeSpec := { name := "fnHashForms", fn := fun _ => fun
  | [d] => { results := [.lit (.bool true)], args := [d] }
  | _ => none }
def fnHashFormsRow : OpenClaim := { program := "ytflcbanemolkfaadoor", sum := "db649180b98ffda481fc2f9db30cb01f4e49fad920a673f7307c6d51a74a5dce", func := "loop.example/belfry/laws.FnHashForms", spec := "fnHashForms", unfollowed := true, recurses := true, named := ["encoding/binary.BigEndian", "encoding/hex.ErrLength"], apart := false, laid := [("encoding/hex.ErrLength", laid_encoding_hex_ErrLength)] }
def FnHashFormsSaid : Prop := fnHashFormsRow.holds Tryd.pinned (OpenSpec.ofChange fnHashFormsSpec)

/-- ITS FALSE NEIGHBOUR: 'it returns false'. Refute it at one input. -/
def fnHashFormsWrong : ChangeSpec := { name := "fnHashForms", fn := fun _ => fun
  | [d] => { results := [.lit (.bool false)], args := [d] }
  | _ => none }
def FnHashFormsWrongFalsely : Prop := fnHashFormsRow.holds Tryd.pinned (OpenSpec.ofChange fnHashFormsWrong)

/- THE SECOND FORM. 'bulk': how many values and letters a reading holds, each counted each time it is reached (what is shared counts as often as it is met; a slice's spare places count too). A statement '..UptoSaid' is the law's where the arguments, and the package variables that the reading takes, are together of bulk at most 1048576: NARROWER than '..Said'. Prove '..Said' where nothing that the law and all that it calls make is longer than what came in: it says more and counts as full. Else prove '..UptoSaid'. A law counts once. -/
mutual
def uptoBulk {H : Type} : DataW H → Nat
  | .lit (.string bytes) => bytes.length + 1
  | .lit _ => 1
  | .nil => 1
  | .ptr d => uptoBulk d + 1
  | .slice elems spare => uptoBulkAll elems + uptoBulkAll spare + 1
  | .agg parts => uptoBulkAll parts + 1
  | .iface _ d => uptoBulk d + 1
  | .map entries => uptoBulkEntries entries + 1
  | .held _ => 1
def uptoBulkAll {H : Type} : List (DataW H) → Nat
  | [] => 0
  | d :: r => uptoBulk d + uptoBulkAll r
def uptoBulkEntries {H : Type} : List (Lit × DataW H) → Nat
  | [] => 0
  | x :: r => uptoBulkEntry x + uptoBulkEntries r
def uptoBulkEntry {H : Type} : Lit × DataW H → Nat
  | (.string bytes, d) => bytes.length + uptoBulk d + 1
  | (_, d) => uptoBulk d + 1
 end
def uptoSmall : (H : Type) → List (DataW H) → Bool := fun _ ds => decide (uptoBulkAll ds ≤ 1048576)
def OpenSpec.upto (s : _root_.Go.ChangeSpec) : _root_.Go.OpenSpec := { _root_.Go.OpenSpec.ofChange s with cond := some uptoSmall }

/-- 'laws.FnExactHashRead', WHERE WHAT IT READS IS OF BULK AT MOST 1048576: true; the input reads as it did. -/
def fnExactHashReadUptoRow : OpenClaim := { program := "ytflcbanemolkfaadoor", sum := "db649180b98ffda481fc2f9db30cb01f4e49fad920a673f7307c6d51a74a5dce", func := "loop.example/belfry/laws.FnExactHashRead", spec := "fnExactHashRead", unfollowed := true, recurses := true, named := ["encoding/hex.ErrLength", "encoding/binary.BigEndian"], apart := false, laid := [("encoding/hex.ErrLength", laid_encoding_hex_ErrLength)], narrowed := true }
def FnExactHashReadUptoSaid : Prop := fnExactHashReadUptoRow.holds Tryd.pinned (OpenSpec.upto fnExactHashReadSpec)

/-- 'laws.FnHashForms', WHERE WHAT IT READS IS OF BULK AT MOST 1048576: true; the input reads as it did. -/
def fnHashFormsUptoRow : OpenClaim := { program := "ytflcbanemolkfaadoor", sum := "db649180b98ffda481fc2f9db30cb01f4e49fad920a673f7307c6d51a74a5dce", func := "loop.example/belfry/laws.FnHashForms", spec := "fnHashForms", unfollowed := true, recurses := true, named := ["encoding/binary.BigEndian", "encoding/hex.ErrLength"], apart := false, laid := [("encoding/hex.ErrLength", laid_encoding_hex_ErrLength)], narrowed := true }
def FnHashFormsUptoSaid : Prop := fnHashFormsUptoRow.holds Tryd.pinned (OpenSpec.upto fnHashFormsSpec)

end Rows
end Go.Proofs.YtflcbanemolkfaaDoor
