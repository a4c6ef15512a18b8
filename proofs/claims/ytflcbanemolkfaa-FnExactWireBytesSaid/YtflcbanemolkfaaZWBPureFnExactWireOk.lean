/- WireOk answers as the reference's: the plain law behind FnExactWireOk. No condition. -/
import Derived.Test.YtflcbanemolkfaaZWBK
import Derived.Test.YtflcbanemolkfaaZWBM
import Derived.Test.YtflcbanemolkfaaZWBFImplWireOk
import Derived.Test.YtflcbanemolkfaaZWBFLawsEqMessage
import Derived.Test.YtflcbanemolkfaaZWBFLawsSzMessage
import Derived.Test.YtflcbanemolkfaaZWBFLawsToMessage
import Derived.Test.YtflcbanemolkfaaZWBFSpecWireOk
import Derived.Test.YtflcbanemolkfaaZWBOpenK
import Derived.Test.YtflcbanemolkfaaZWBQWireOk
import Derived.Test.YtflcbanemolkfaaZWBQListS
namespace Go.Proofs.Ytflcbanemolkfaa.Pure
open Go.RowKit Go.Proofs.Ytflcbanemolkfaa.Opening Go.Proofs.Ytflcbanemolkfaa.B Go.Proofs.Ytflcbanemolkfaa.Q Go.Proofs.YtflcbanemolkfaaW.PrintWords Go.Proofs.YtflcbanemolkfaaW.PrintLast
set_option linter.unusedVariables false
set_option linter.unusedSimpArgs false
theorem szMsg {k : Nat} (hk : 1048576 < k) (a x1 x2 x3 x4 x5 x6 x7 x8 : Int) (P : List LD) (L : List ByteArray) (hP : P.length ≤ 9223372036854775807) (hL : L.length ≤ 9223372036854775807) (hs : ∀ s ∈ L, s.size ≤ 9223372036854775807) :
    ∃ r, laws_szMessage.f k a x1 x2 x3 x4 x5 x6 x7 x8 P L 1048576 = some r ∧ (r < 0 ∨ (P.length ≤ 1048576 ∧ L.length ≤ 1048576)) := by
  unfold laws_szMessage.f
  obtain ⟨r, hr, hb⟩ := szDigs P 1048576 hP (by omega) (by omega)
  by_cases c : r < 0
  · refine ⟨-1, bsw hr ?_, .inl (by omega)⟩
    rw [if_pos c]
  · obtain ⟨r2, hr2, hb2⟩ := szStrs (k := k) L r hk hL hs (by omega) (by omega)
    by_cases c2 : r2 < 0
    · refine ⟨-1, bsw hr ?_, .inl (by omega)⟩
      rw [if_neg c]
      refine bsw hr2 ?_
      rw [if_pos c2]
    · refine ⟨r2, bsw hr ?_, .inr (by omega)⟩
      rw [if_neg c]
      refine bsw hr2 ?_
      rw [if_neg c2]
theorem toMsg {k : Nat} (a x1 x2 x3 x4 x5 x6 x7 x8 : Int) (P : List LD) (L : List ByteArray) (hk : 1048576 < k) (hP : P.length ≤ 1048576) (hL : L.length ≤ 1048576) : laws_toMessage.f k a x1 x2 x3 x4 x5 x6 x7 x8 P L = some (a, x1, x2, x3, x4, x5, x6, x7, x8, P.map conv, L) := by
  unfold laws_toMessage.f
  refine bsw (v := (x4, x5, x6, x7)) rfl ?_
  exact bsw (toDigs P (by omega) (by omega)) (bsw (toStrs L (by omega) (by omega)) rfl)
theorem eqMsg {k : Nat} (a x1 x2 x3 x4 x5 x6 x7 x8 : Int) (P : List SD) (L : List ByteArray) (hk : 1048576 < k) (hP : P.length ≤ 1048576) (hL : L.length ≤ 1048576) : laws_eqMessage.f k a x1 x2 x3 x4 x5 x6 x7 x8 P L a x1 x2 x3 x4 x5 x6 x7 x8 P L = some true := by
  unfold laws_eqMessage.f
  rw [if_pos rfl, if_pos rfl, if_pos rfl, if_pos rfl]
  refine bsw (v := true) (by unfold laws_eqDigest.f; rw [if_pos rfl, if_pos rfl, if_pos rfl, if_pos rfl]) ?_
  rw [if_pos rfl, if_pos rfl]
  refine bsw (eqDigs P (by omega) (by omega)) ?_
  rw [if_pos rfl]
  refine bsw (eqStrs L (by omega) (by omega)) ?_
  rw [if_pos rfl]
end Go.Proofs.Ytflcbanemolkfaa.Pure
