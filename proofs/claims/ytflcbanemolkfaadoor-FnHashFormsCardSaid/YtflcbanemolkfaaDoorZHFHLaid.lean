/- What the row's listed variable gives: its cell holds an error that is not nil; and a world that meets the condition. No condition. -/
import Derived.Test.YtflcbanemolkfaaDoorRows
import Derived.WalkKit
import Derived.ProofKit
import Derived.ChangeSame
import Derived.ChangeVars
import Derived.RowKit
import Derived.RowKitTokens
import Derived.LaidLaws
import Derived.Stop.ErrReads
import Derived.Test.YtflcbanemolkfaaDoorZHFHHexKit
namespace Go.Proofs.YtflcbanemolkfaaDoor.Laid
open Go.ChangeShapes Go.WideShapes Go.RowKit
set_option linter.unusedVariables false
theorem errNamed : Tryd.prog.globalNamed "encoding/hex.ErrLength" = some 1 := by kernel_rfl
theorem errType : (Tryd.prog.globals[1]?).map (·.type) = some 49 := by kernel_rfl
theorem errCells : Tryd.prog.cellsOf 83 = 1 := by kernel_rfl
theorem strCells1 : Tryd.prog.cellsOf 9 = 1 := by kernel_rfl
theorem star : "*" ++ "errors.errorString" = "*errors.errorString" := by decide
theorem errRow (u : TypeId) (h : Tryd.prog.typeName? 3 u = some "*errors.errorString") : u = 63 :=
  typeName_ptr_named (nm := "errors.errorString") (by rw [star]; kernel_rfl) (by kernel_rfl) (by decide) u (by rw [star]; exact h)
theorem sentinel_of_laid {W : World} (h : laidMet Tryd.prog [("encoding/hex.ErrLength", Rows.laid_encoding_hex_ErrLength)] W) : ∃ a0 : Addr, W.cell? ⟨1, 0, none⟩ = some (B.EVp a0) := by
  obtain ⟨ps, ⟨g0, t0, cs0, f0, p0, q0, hg0, ht0, hv0, hd0, hq0, e0⟩, hnd, hrows⟩ := h
  obtain rfl := Option.some.inj (errNamed.symm.trans hg0)
  obtain rfl := Option.some.inj (errType.symm.trans ht0)
  have hq0' : q0 = [] := hq0
  subst hq0'
  subst e0
  obtain ⟨l0⟩ := cs0
  have ok0 : ∀ u v, l0 = [.iface u v] → Value.okWide Tryd.prog W .any 0 u v := fun u v e => by
    subst e
    exact (hrows 1 0 (by simp [MemPlace.row])).2 u v (by simpa using World.var?_cell hg0 hv0 0)
  obtain ⟨a0, s0, rfl, hc0, hs0, hz0, rfl⟩ := errorString_of_trod Tryd.underlying49 errRow Tryd.underlying63 Tryd.underlying83 rfl rfl Tryd.underlying9 errCells strCells1 hd0 ok0
  exact ⟨a0, by simpa using World.var?_cell hg0 hv0 0⟩
abbrev errS : ByteArray := { data := #[101, 110, 99, 111, 100, 105, 110, 103, 47, 104, 101, 120, 58, 32, 111, 100, 100, 32, 108, 101, 110, 103, 116, 104, 32, 104, 101, 120, 32, 115, 116, 114, 105, 110, 103] }
noncomputable def low : Nat := (World.holding Tryd.prog default ⟨#[], #[], []⟩).heap.size
noncomputable def laidWorld (os : Os) : World :=
  let w0 := World.holding Tryd.prog os ⟨#[.cells #[.string errS] 83], #[], []⟩
  { w0 with heap := w0.heap.modify 1 fun
      | .cells _ t frozen => .cells #[.iface 63 (.pointer (some ⟨low, 0, none⟩))] t frozen
      | o => o }
theorem laidWorld_met (os : Os) (args : Array Value) : laidMet Tryd.prog [("encoding/hex.ErrLength", Rows.laid_encoding_hex_ErrLength)] ((laidWorld os).forCall (fun _ _ => 0) ⟨#[], args, []⟩).memory :=
  laidMet_of_run (ps := [.cell 1 0, .cell low 0]) 8 (by kernel_rfl) (by kernel_rfl) (by kernel_rfl)
end Go.Proofs.YtflcbanemolkfaaDoor.Laid
