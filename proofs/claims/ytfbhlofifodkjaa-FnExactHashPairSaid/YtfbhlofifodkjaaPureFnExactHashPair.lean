/- HashPair answers as the reference's: the plain law behind FnExactHashPair. No condition. -/
import Derived.Test.YtfbhlofifodkjaaFLawsFnExactHashPair
import Derived.Test.YtfbhlofifodkjaaOpenK
import Derived.Test.YtfbhlofifodkjaaQPair
namespace Go.Proofs.Ytfbhlofifodkjaa.Pure
open Go.RowKit Go.Proofs.Ytfbhlofifodkjaa.B Go.Proofs.Ytfbhlofifodkjaa.Q Go.Proofs.Ytfbhlofifodkjaa.Opening Go.Proofs.YtfbhlofifodkjaaW.PrintWords Go.Proofs.YtfbhlofifodkjaaW.PrintLast
theorem FnExactHashPair (y0 : S28) (y1 : S28) (_ : ok28 y0) (_ : ok28 y1) : ∃ k, laws_FnExactHashPair.f k y0.f0 y0.f1 y0.f2 y0.f3 y1.f0 y1.f1 y1.f2 y1.f3 = some true := by
  refine ⟨30000, ?_⟩
  unfold laws_FnExactHashPair.f laws_toDigest.f
  simp only [Option.bind_some]
  rw [spec_pair (Nat.le_refl _), impl_pair (Nat.le_refl _)]
  simp only [Option.bind_some]
  unfold laws_eqDigest.f
  simp
end Go.Proofs.Ytfbhlofifodkjaa.Pure
