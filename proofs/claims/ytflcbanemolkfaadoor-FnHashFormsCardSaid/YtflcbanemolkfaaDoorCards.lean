/-
  DERIVED. GIVEN WITH THE SEED: THE CARDS: each row of YtflcbanemolkfaaDoorRows.lean that lists a variable, with what it lists TIED to the program's text (the seventh form; the later family's looks); each row that meets fmt, with fmt's text TOLD by the authors' own Lean function (tested against real Go, not proved from fmt's source: count such statements apart). THE CARD IS WHAT COUNTS. Prove the row's statement (the work); the ties are given (YtflcbanemolkfaaDoorTie.lean); close each card by the builder's one call (the guide's Derived/Test/ToyasCard.lean, 'card_holds'). Laid BY PROGRAM, IN A SANDBOX (cutbox-door.mjs). By AI agents, Wed Nov 11 2026. No macro, syntax, notation, axiom, sorry.
-/
import Derived.Test.YtflcbanemolkfaaDoorRows
import GoSem.ClaimSeven
namespace Go.Proofs.YtflcbanemolkfaaDoor
namespace Rows

/-- THE TIED CARD OF 'laws.FnExactHashRead'. -/
def fnExactHashReadCard : Claim7 := { stood := { row := fnExactHashReadRow, standIns := [], harness := (true, "1c34119c54bd451d47d9265ac1a3b15d44323c34208848af4f2d2171fd6b13d3"), looks := false }, kinds := [], alts := [], laidByText := true, laidKinds := [.sentinel], laidTests := true, laidLooks := .later }
def FnExactHashReadCardSaid : Prop := Claim7.holds Tryd.pinned (.plain (OpenSpec.ofChange fnExactHashReadSpec)) fnExactHashReadCard

/-- THE TIED CARD OF 'laws.FnHashForms'. -/
def fnHashFormsCard : Claim7 := { stood := { row := fnHashFormsRow, standIns := [], harness := (true, "1c34119c54bd451d47d9265ac1a3b15d44323c34208848af4f2d2171fd6b13d3"), looks := false }, kinds := [], alts := [], laidByText := true, laidKinds := [.sentinel], laidTests := true, laidLooks := .later }
def FnHashFormsCardSaid : Prop := Claim7.holds Tryd.pinned (.plain (OpenSpec.ofChange fnHashFormsSpec)) fnHashFormsCard

/-- THE SECOND FORM's CARD OF 'laws.FnExactHashRead'. -/
def fnExactHashReadUptoCard : Claim7 := { stood := { row := fnExactHashReadUptoRow, standIns := [], harness := (true, "1c34119c54bd451d47d9265ac1a3b15d44323c34208848af4f2d2171fd6b13d3"), looks := false }, kinds := [], alts := [], laidByText := true, laidKinds := [.sentinel], laidTests := true, laidLooks := .later }
def FnExactHashReadUptoCardSaid : Prop := Claim7.holds Tryd.pinned (.plain (OpenSpec.upto fnExactHashReadSpec)) fnExactHashReadUptoCard

/-- THE SECOND FORM's CARD OF 'laws.FnHashForms'. -/
def fnHashFormsUptoCard : Claim7 := { stood := { row := fnHashFormsUptoRow, standIns := [], harness := (true, "1c34119c54bd451d47d9265ac1a3b15d44323c34208848af4f2d2171fd6b13d3"), looks := false }, kinds := [], alts := [], laidByText := true, laidKinds := [.sentinel], laidTests := true, laidLooks := .later }
def FnHashFormsUptoCardSaid : Prop := Claim7.holds Tryd.pinned (.plain (OpenSpec.upto fnHashFormsSpec)) fnHashFormsUptoCard
end Rows
end Go.Proofs.YtflcbanemolkfaaDoor
