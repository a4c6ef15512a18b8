/- What an argument of a type of whole numbers, bools, strings, structs and slices of these reads as, in the print's words (no condition): 'Opens'. -/
import Derived.Deep.Slices
import Derived.ChangeArms
import Derived.WideShapes
import Derived.Test.YtflcbanemolkfaaDoorZHRV1
namespace Go.Proofs.YtflcbanemolkfaaDoor.Opening
open Go.Proofs.YtflcbanemolkfaaDoorW.PrintWords Go.Deep Go.WideShapes
variable {P : Program} {α β : Type}
def Opens (P : Program) (d : Kd α) (t : TypeId) (ok : α → Prop) : Prop :=
  ∀ (H : Type) (enc : TypeId × Value → H) (w : World) (fuel : Nat) (cs : List Value) (x : DataW H × List MemPlace),
    DataW.trod enc P w 0 (fun _ => true) true fuel t cs = some x → ∃ y : α, d.K w y cs ∧ ok y
theorem opens_string {t : TypeId} (ht : P.underlying t = some .string) : Opens P Kd.string t (fun s => s.size ≤ 9223372036854775807) := by
  intro H enc w fuel cs x h
  obtain ⟨n, rfl, _, hm⟩ := DataW.trod_string ht h
  unfold maxLen at hm
  exact ⟨n, rfl, hm⟩
end Go.Proofs.YtflcbanemolkfaaDoor.Opening
