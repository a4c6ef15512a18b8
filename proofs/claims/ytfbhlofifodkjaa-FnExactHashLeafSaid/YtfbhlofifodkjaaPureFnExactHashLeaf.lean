/- HashLeaf answers as the reference's: the plain law behind FnExactHashLeaf. No condition. -/
import Derived.Test.YtfbhlofifodkjaaFLawsFnExactHashLeaf
import Derived.Test.YtfbhlofifodkjaaQPair
namespace Go.Proofs.Ytfbhlofifodkjaa.Pure
open Go.RowKit Go.Proofs.Ytfbhlofifodkjaa.B Go.Proofs.Ytfbhlofifodkjaa.Q Go.Proofs.YtfbhlofifodkjaaW.PrintWords Go.Proofs.YtfbhlofifodkjaaW.PrintLast
theorem FnExactHashLeaf (y0 : ByteArray) (_ : y0.size ≤ 9223372036854775807) : ∃ k, laws_FnExactHashLeaf.f k y0 = some true := by
  refine ⟨30000, ?_⟩
  unfold laws_FnExactHashLeaf.f
  by_cases h : (y0.size : Int) > 1048576
  · rw [if_pos h]
  · rw [if_neg h, spec_leaf (Nat.le_refl _) (by omega), impl_leaf (Nat.le_refl _) (by omega)]
    simp only [Option.bind_some]
    unfold laws_eqDigest.f
    simp
end Go.Proofs.Ytfbhlofifodkjaa.Pure
