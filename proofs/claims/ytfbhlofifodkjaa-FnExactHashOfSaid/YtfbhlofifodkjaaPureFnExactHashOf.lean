/- HashOf answers as the reference's: the plain law behind FnExactHashOf. No condition. -/
import Derived.Test.YtfbhlofifodkjaaFLawsFnExactHashOf
import Derived.Test.YtfbhlofifodkjaaQHash
namespace Go.Proofs.Ytfbhlofifodkjaa.Pure
open Go.RowKit Go.Proofs.Ytfbhlofifodkjaa.B Go.Proofs.Ytfbhlofifodkjaa.Q Go.Proofs.YtfbhlofifodkjaaW.PrintWords Go.Proofs.YtfbhlofifodkjaaW.PrintLast
theorem eqD (a b c d : Int) : laws_eqDigest.f a b c d a b c d = some true := by unfold laws_eqDigest.f; simp
theorem FnExactHashOf (y0 : ByteArray) (_ : y0.size ≤ 9223372036854775807) : ∃ k, laws_FnExactHashOf.f k y0 = some true := by
  refine ⟨30000, ?_⟩
  unfold laws_FnExactHashOf.f
  split
  · rfl
  · rw [spec_hash (Nat.le_refl _), impl_hash (Nat.le_refl _)]
    simp only [Option.bind_some]
    rw [eqD]
    rfl
end Go.Proofs.Ytfbhlofifodkjaa.Pure
