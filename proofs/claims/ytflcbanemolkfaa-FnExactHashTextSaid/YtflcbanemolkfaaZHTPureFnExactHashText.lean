/- HashText answers as the reference's: the plain law behind FnExactHashText. No condition. -/
import Derived.Test.YtflcbanemolkfaaZHTFLawsFnExactHashText
import Derived.Test.YtflcbanemolkfaaZHTOpenK
import Derived.Test.YtflcbanemolkfaaZHTQHex
namespace Go.Proofs.Ytflcbanemolkfaa.Pure
open Go.RowKit Go.Proofs.Ytflcbanemolkfaa.B Go.Proofs.Ytflcbanemolkfaa.Q Go.Proofs.Ytflcbanemolkfaa.Opening Go.Proofs.YtflcbanemolkfaaW.PrintWords Go.Proofs.YtflcbanemolkfaaW.PrintLast
theorem FnExactHashText (y0 : S24) (_ : ok24 y0) : ∃ k, laws_FnExactHashText.f k (y0.f0) (y0.f1) (y0.f2) (y0.f3) = some true := by
  refine ⟨100, ?_⟩
  unfold laws_FnExactHashText.f
  have ed : laws_toDigest.f y0.f0 y0.f1 y0.f2 y0.f3 = some (y0.f0, y0.f1, y0.f2, y0.f3) := rfl
  refine bsx ed (bsx (spec_hashText (by omega) _ _ _ _) (bsx ed (bsx (impl_hashText (by omega) _ _ _ _) ?_)))
  rw [if_pos rfl]
end Go.Proofs.Ytflcbanemolkfaa.Pure
