/- HashRead answers as the reference's: the plain law behind FnExactHashRead. No condition. -/
import Derived.Test.YtflcbanemolkfaaDoorZHRFLawsFnExactHashRead
import Derived.Test.YtflcbanemolkfaaDoorZHRQHexRead
namespace Go.Proofs.YtflcbanemolkfaaDoor.Pure
open Go.RowKit Go.Proofs.YtflcbanemolkfaaDoor.B Go.Proofs.YtflcbanemolkfaaDoor.Q Go.Proofs.YtflcbanemolkfaaDoorW.PrintWords Go.Proofs.YtflcbanemolkfaaDoorW.PrintLast
theorem eqSame {a b c d : Int} : laws_eqDigest.f a b c d a b c d = some true := by unfold laws_eqDigest.f; rw [if_pos rfl, if_pos rfl, if_pos rfl, if_pos rfl]
theorem FnExactHashRead (y0 : ByteArray) (_ : y0.size ≤ 9223372036854775807) : ∃ k, laws_FnExactHashRead.f k y0 = some true := by
  refine ⟨4000011, ?_⟩
  unfold laws_FnExactHashRead.f
  by_cases c : (y0.size : Int) > 1048576
  · rw [if_pos c]
  · rw [if_neg c]
    obtain ⟨r, h1, h2⟩ := hashRead_same (k := 4000011) (by omega) y0 (by omega)
    refine bsw h1 (bsw h2 (bsw eqSame ?_))
    rw [if_pos rfl, bne_self_eq_false, if_neg (by simp)]
end Go.Proofs.YtflcbanemolkfaaDoor.Pure
