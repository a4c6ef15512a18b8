/- GrowthLen answers as the reference's: the plain law behind FnExactGrowthLen. No condition. -/
import Derived.Test.YtfbhlofifodkjaaFLawsFnExactGrowthLen
import Derived.Test.YtfbhlofifodkjaaQFall
namespace Go.Proofs.Ytfbhlofifodkjaa.Pure
open Go.RowKit Go.Proofs.Ytfbhlofifodkjaa.B Go.Proofs.Ytfbhlofifodkjaa.Q Go.Proofs.YtfbhlofifodkjaaW.PrintWords Go.Proofs.YtfbhlofifodkjaaW.PrintLast
theorem growLen_at (k : Nat) (hk : 600 ≤ k) (a b : Int) : laws_FnExactGrowthLen.f k a b = some true := by
  unfold laws_FnExactGrowthLen.f
  rw [spec_growLen hk, impl_growLen (by omega)]
  simp
theorem FnExactGrowthLen (y0 : Int) (y1 : Int) (_ : (Lit.int .i64 y0).wf = true) (_ : (Lit.int .i64 y1).wf = true) : ∃ k, laws_FnExactGrowthLen.f k y0 y1 = some true := ⟨1000, growLen_at _ (by omega) _ _⟩
end Go.Proofs.Ytfbhlofifodkjaa.Pure
