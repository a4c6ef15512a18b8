/- WireBytes answers as the reference's: the plain law behind FnExactWireBytes. No condition. -/
import Derived.Test.YtflcbanemolkfaaZWBFLawsFnExactWireBytes
import Derived.Test.YtflcbanemolkfaaZWBOpenK
import Derived.Test.YtflcbanemolkfaaZWBQWire
import Derived.Test.YtflcbanemolkfaaZWBQListS
import Derived.Test.YtflcbanemolkfaaZWBPureFnExactWireOk
namespace Go.Proofs.Ytflcbanemolkfaa.Pure
open Go.RowKit Go.Proofs.Ytflcbanemolkfaa.Opening Go.Proofs.Ytflcbanemolkfaa.B Go.Proofs.Ytflcbanemolkfaa.Q Go.Proofs.YtflcbanemolkfaaW.PrintWords Go.Proofs.YtflcbanemolkfaaW.PrintLast
set_option linter.unusedVariables false
set_option linter.unusedSimpArgs false
theorem pOk_le {t : Bool} {x hi : Int} (h : pOk t x 0 hi = true) (h0 : 0 ≤ hi) : x ≤ hi := by
  unfold pOk at h
  cases t with
  | true => rw [if_pos rfl] at h; have := of_decide_eq_true h; omega
  | false => rw [if_neg (by simp)] at h; have := eq_of_beq h; omega
theorem wok_facts {a x1 x2 x3 x4 x5 x6 x7 x8 : Int} {P : List SD} {L : List ByteArray} (hw : wok a x1 x2 x3 x4 x5 x6 x7 x8 P L = true) : (1 ≤ a ∧ a ≤ 8) ∧ P.length ≤ 16 ∧ L.length ≤ 8 ∧ ∀ s ∈ L, s.size ≤ 40 := by
  unfold wok rest at hw
  simp only [Bool.and_eq_true] at hw
  obtain ⟨hs, ha, h1, h2, h3, h4, h5, h6, h7⟩ := hw
  refine ⟨of_decide_eq_true ha, by have := pOk_le h6 (by omega); omega, by have := pOk_le h7 (by omega); omega, fun s h => ?_⟩
  unfold small at hs
  exact of_decide_eq_true (List.all_eq_true.1 hs s h)
theorem wireBytes_same {k : Nat} (hk : 1099511627800 < k) (a x1 x2 x3 x4 x5 x6 x7 x8 : Int) (P : List SD) (L : List ByteArray) (hL : L.length < 1099511627776) : ∃ s, spec_WireBytes.f (k + 6) a x1 x2 x3 x4 x5 x6 x7 x8 P L = some s ∧ impl_WireBytes.f (k + 6) a x1 x2 x3 x4 x5 x6 x7 x8 P L = some s := by
  cases hw : wok a x1 x2 x3 x4 x5 x6 x7 x8 P L with
  | true =>
    obtain ⟨h, hP, hl, hs⟩ := wok_facts hw
    refine ⟨_, spec_wb a x1 x2 x3 x4 x5 x6 x7 x8 P L hk hw h hP hl hs, ?_⟩
    unfold impl_WireBytes.f
    refine bsw (impl_wok (k := k + 6) (by omega) a x1 x2 x3 x4 x5 x6 x7 x8 P L hL) ?_
    rw [hw, if_pos rfl]
    refine bsw (impl_wb a x1 x2 x3 x4 x5 x6 x7 x8 P L (by omega) h hP hl hs) ?_
    rw [wire_join a x1 x2 x3 x4 x5 x6 x7 x8 P L h]
  | false =>
    refine ⟨(⟨#[]⟩ : ByteArray), ?_, ?_⟩
    · unfold spec_WireBytes.f
      refine bsw (spec_wok hk a x1 x2 x3 x4 x5 x6 x7 x8 P L hL) ?_
      rw [hw, if_neg (by simp)]
    · unfold impl_WireBytes.f
      refine bsw (impl_wok (k := k + 6) (by omega) a x1 x2 x3 x4 x5 x6 x7 x8 P L hL) ?_
      rw [hw, if_neg (by simp)]
theorem wireBytes_at (k : Nat) (hk : 1099511627800 < k) (a x1 x2 x3 x4 x5 x6 x7 x8 : Int) (P : List LD) (L : List ByteArray) (hP : P.length ≤ 9223372036854775807) (hL : L.length ≤ 9223372036854775807) (hs : ∀ s ∈ L, s.size ≤ 9223372036854775807) : laws_FnExactWireBytes.f (k + 6) a x1 x2 x3 x4 x5 x6 x7 x8 P L = some true := by
  unfold laws_FnExactWireBytes.f
  obtain ⟨r, hr, hb⟩ := szMsg (k := k + 6) (by omega) a x1 x2 x3 x4 x5 x6 x7 x8 P L hP hL hs
  refine bsw hr ?_
  by_cases c : r < 0
  · rw [if_pos c]
  · rw [if_neg c]
    have h1 : P.length ≤ 1048576 := by omega
    have h2 : L.length ≤ 1048576 := by omega
    have h3 : (P.map conv).length ≤ 1048576 := by simpa using h1
    have T := toMsg (k := k + 6) a x1 x2 x3 x4 x5 x6 x7 x8 P L (by omega) h1 h2
    obtain ⟨s, S1, S2⟩ := wireBytes_same hk a x1 x2 x3 x4 x5 x6 x7 x8 (P.map conv) L (by omega)
    refine bsw T (bsw S1 (bsw T (bsw S2 ?_)))
    rw [if_pos rfl]
    refine bsw T (bsw (eqMsg (k := k + 6) a x1 x2 x3 x4 x5 x6 x7 x8 (P.map conv) L (by omega) h3 h2) ?_)
    rw [if_pos rfl]
theorem FnExactWireBytes (y0 : S32) (h : ok32 y0) : ∃ k, laws_FnExactWireBytes.f k (y0.f0) (y0.f1) (y0.f2) (y0.f3) (y0.f4.f0) (y0.f4.f1) (y0.f4.f2) (y0.f4.f3) (y0.f5) (y0.f6) (y0.f7) = some true := ⟨1099511627801 + 6, wireBytes_at _ (by omega) _ _ _ _ _ _ _ _ _ _ _ h.2.2.2.2.2.2.1.1 h.2.2.2.2.2.2.2.1 h.2.2.2.2.2.2.2.2⟩
end Go.Proofs.Ytflcbanemolkfaa.Pure
