/- HashBytes answers as the reference's: the plain law behind FnExactHashBytes. No condition. -/
import Derived.Test.YtfbhlofifodkjaaFLawsFnExactHashBytes
import Derived.Test.YtfbhlofifodkjaaOpenK
import Derived.Test.YtfbhlofifodkjaaQBlock
namespace Go.Proofs.Ytfbhlofifodkjaa.Pure
open Go.RowKit Go.Proofs.Ytfbhlofifodkjaa.B Go.Proofs.Ytfbhlofifodkjaa.Q Go.Proofs.Ytfbhlofifodkjaa.Opening Go.Proofs.YtfbhlofifodkjaaW.PrintWords Go.Proofs.YtfbhlofifodkjaaW.PrintLast
theorem FnExactHashBytes (y0 : S28) (_ : ok28 y0) : ∃ k, laws_FnExactHashBytes.f k y0.f0 y0.f1 y0.f2 y0.f3 = some true := by
  refine ⟨9, ?_⟩
  unfold laws_FnExactHashBytes.f laws_toDigest.f
  simp only [Option.bind_some]
  rw [spec_hbytes (by omega), impl_hbytes (by omega)]
  simp
end Go.Proofs.Ytfbhlofifodkjaa.Pure
