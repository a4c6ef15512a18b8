/- WireOk answers as the reference's: the plain law behind FnExactWireOk. No condition. -/
import Derived.Test.YtflcbanemolkfaaZWOFLawsFnExactWireOk
import Derived.Test.YtflcbanemolkfaaZWOOpenK
import Derived.Test.YtflcbanemolkfaaZWOQWireOk
import Derived.Test.YtflcbanemolkfaaZWOQListS
namespace Go.Proofs.Ytflcbanemolkfaa.Pure
open Go.RowKit Go.Proofs.Ytflcbanemolkfaa.Opening Go.Proofs.Ytflcbanemolkfaa.B Go.Proofs.Ytflcbanemolkfaa.Q Go.Proofs.YtflcbanemolkfaaW.PrintWords Go.Proofs.YtflcbanemolkfaaW.PrintLast
set_option linter.unusedVariables false
set_option linter.unusedSimpArgs false
theorem szMsg {k : Nat} (hk : 1048576 < k) (a x1 x2 x3 x4 x5 x6 x7 x8 : Int) (P : List LD) (L : List ByteArray) (hP : P.length ≤ 9223372036854775807) (hL : L.length ≤ 9223372036854775807) (hs : ∀ s ∈ L, s.size ≤ 9223372036854775807) :
    ∃ r, laws_szMessage.f k a x1 x2 x3 x4 x5 x6 x7 x8 P L 1048576 = some r ∧ (r < 0 ∨ (P.length ≤ 1048576 ∧ L.length ≤ 1048576)) := by
  unfold laws_szMessage.f
  obtain ⟨r, hr, hb⟩ := szDigs P 1048576 hP (by omega) (by omega)
  by_cases c : r < 0
  · refine ⟨-1, bsw hr ?_, .inl (by omega)⟩
    rw [if_pos c]
  · obtain ⟨r2, hr2, hb2⟩ := szStrs (k := k) L r hk hL hs (by omega) (by omega)
    by_cases c2 : r2 < 0
    · refine ⟨-1, bsw hr ?_, .inl (by omega)⟩
      rw [if_neg c]
      refine bsw hr2 ?_
      rw [if_pos c2]
    · refine ⟨r2, bsw hr ?_, .inr (by omega)⟩
      rw [if_neg c]
      refine bsw hr2 ?_
      rw [if_neg c2]
theorem toMsg {k : Nat} (a x1 x2 x3 x4 x5 x6 x7 x8 : Int) (P : List LD) (L : List ByteArray) (hk : 1048576 < k) (hP : P.length ≤ 1048576) (hL : L.length ≤ 1048576) : laws_toMessage.f k a x1 x2 x3 x4 x5 x6 x7 x8 P L = some (a, x1, x2, x3, x4, x5, x6, x7, x8, P.map conv, L) := by
  unfold laws_toMessage.f
  refine bsw (v := (x4, x5, x6, x7)) rfl ?_
  exact bsw (toDigs P (by omega) (by omega)) (bsw (toStrs L (by omega) (by omega)) rfl)
theorem eqMsg {k : Nat} (a x1 x2 x3 x4 x5 x6 x7 x8 : Int) (P : List SD) (L : List ByteArray) (hk : 1048576 < k) (hP : P.length ≤ 1048576) (hL : L.length ≤ 1048576) : laws_eqMessage.f k a x1 x2 x3 x4 x5 x6 x7 x8 P L a x1 x2 x3 x4 x5 x6 x7 x8 P L = some true := by
  unfold laws_eqMessage.f
  rw [if_pos rfl, if_pos rfl, if_pos rfl, if_pos rfl]
  refine bsw (v := true) (by unfold laws_eqDigest.f; rw [if_pos rfl, if_pos rfl, if_pos rfl, if_pos rfl]) ?_
  rw [if_pos rfl, if_pos rfl]
  refine bsw (eqDigs P (by omega) (by omega)) ?_
  rw [if_pos rfl]
  refine bsw (eqStrs L (by omega) (by omega)) ?_
  rw [if_pos rfl]
theorem wireOk_at (k : Nat) (hk : 1099511627800 < k) (a x1 x2 x3 x4 x5 x6 x7 x8 : Int) (P : List LD) (L : List ByteArray) (hP : P.length ≤ 9223372036854775807) (hL : L.length ≤ 9223372036854775807) (hs : ∀ s ∈ L, s.size ≤ 9223372036854775807) : laws_FnExactWireOk.f (k + 6) a x1 x2 x3 x4 x5 x6 x7 x8 P L = some true := by
  unfold laws_FnExactWireOk.f
  obtain ⟨r, hr, hb⟩ := szMsg (k := k + 6) (by omega) a x1 x2 x3 x4 x5 x6 x7 x8 P L hP hL hs
  refine bsw hr ?_
  by_cases c : r < 0
  · rw [if_pos c]
  · rw [if_neg c]
    have h1 : P.length ≤ 1048576 := by omega
    have h2 : L.length ≤ 1048576 := by omega
    have h3 : (P.map conv).length ≤ 1048576 := by simpa using h1
    have T := toMsg (k := k + 6) a x1 x2 x3 x4 x5 x6 x7 x8 P L (by omega) h1 h2
    refine bsw T (bsw (spec_wok (k := k) (by omega) a x1 x2 x3 x4 x5 x6 x7 x8 (P.map conv) L (by omega)) (bsw T (bsw (impl_wok (k := k + 6) (by omega) a x1 x2 x3 x4 x5 x6 x7 x8 (P.map conv) L (by omega)) ?_)))
    rw [bne_self_eq_false, if_neg (by simp)]
    refine bsw T (bsw (eqMsg (k := k + 6) a x1 x2 x3 x4 x5 x6 x7 x8 (P.map conv) L (by omega) h3 h2) ?_)
    rw [if_pos rfl]
theorem FnExactWireOk (y0 : S32) (h : ok32 y0) : ∃ k, laws_FnExactWireOk.f k (y0.f0) (y0.f1) (y0.f2) (y0.f3) (y0.f4.f0) (y0.f4.f1) (y0.f4.f2) (y0.f4.f3) (y0.f5) (y0.f6) (y0.f7) = some true := ⟨1099511627801 + 6, wireOk_at _ (by omega) _ _ _ _ _ _ _ _ _ _ _ h.2.2.2.2.2.2.1.1 h.2.2.2.2.2.2.2.1 h.2.2.2.2.2.2.2.2⟩
end Go.Proofs.Ytflcbanemolkfaa.Pure
