/- PathLen answers as the reference's: the plain law behind FnExactPathLen. No condition. -/
import Derived.Test.YtfbhlofifodkjaaFLawsFnExactPathLen
import Derived.Test.YtfbhlofifodkjaaQWay
namespace Go.Proofs.Ytfbhlofifodkjaa.Pure
open Go.RowKit Go.Proofs.Ytfbhlofifodkjaa.B Go.Proofs.Ytfbhlofifodkjaa.Q Go.Proofs.YtfbhlofifodkjaaW.PrintWords Go.Proofs.YtfbhlofifodkjaaW.PrintLast
theorem pathLen_at (k : Nat) (hk : 300 ≤ k) (a b : Int) : laws_FnExactPathLen.f k a b = some true := by
  unfold laws_FnExactPathLen.f
  rw [spec_pathLen hk, impl_pathLen hk]
  simp
theorem FnExactPathLen (y0 : Int) (y1 : Int) (_ : (Lit.int .i64 y0).wf = true) (_ : (Lit.int .i64 y1).wf = true) : ∃ k, laws_FnExactPathLen.f k y0 y1 = some true := ⟨1000, pathLen_at _ (by omega) _ _⟩
end Go.Proofs.Ytfbhlofifodkjaa.Pure
