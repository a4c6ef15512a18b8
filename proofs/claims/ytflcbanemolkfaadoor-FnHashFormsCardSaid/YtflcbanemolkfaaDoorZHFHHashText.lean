/- What the Go function impl.HashText does: the digits of the digest's bytes. Condition: impl_HashText.f gives an answer. -/
import Derived.Test.YtflcbanemolkfaaDoorZHFHBytesEv
import Derived.Test.YtflcbanemolkfaaDoorZHFGImplPair1
import Derived.Test.YtflcbanemolkfaaDoorZHFFHexEncodeToString
namespace Go.Proofs.YtflcbanemolkfaaDoor.B
open Go.RowKit Go.Proofs.YtflcbanemolkfaaDoorW.PrintWords Go.Proofs.YtflcbanemolkfaaDoorW.PrintLast Go.Proofs.YtflcbanemolkfaaDoorW.PrintMore
set_option linter.unusedVariables false
set_option linter.unusedSimpArgs false
def impl_HashText.f (k : Nat) (a0 a1 a2 a3 : Int) : Option ByteArray := (impl_HashBytes.f k a0 a1 a2 a3).bind fun s => if s.size ≤ 9223372036854775807 then hex_EncodeToString.f k (bytesOf s) else none
set_option maxHeartbeats 8000000 in
set_option maxRecDepth 100000 in
theorem impl_HashText.calls (k : Nat) (a0 a1 a2 a3 : Int) (r : ByteArray) (w : World) (h : impl_HashText.f k a0 a1 a2 a3 = some r) :
    Calls Tryd.prog 11 #[.agg #[.int .u64 a0, .int .u64 a1, .int .u64 a2, .int .u64 a3]] w fun e w' => e = .returned (.string r) ∧ Below w.heap.size w w' := by
  have hu30 := Tryd.underlying24
  have HB := Aside0.mk (Below.refl w.heap.size w)
  unfold impl_HashText.f at h
  obtain ⟨s, hs1, h⟩ := Option.bind_eq_some_iff.mp h
  by_cases hs : s.size ≤ 9223372036854775807
  · rw [if_pos hs] at h
    have hlen : (bytesOf s).length = s.size := bytesOf_length s
    have hcall : ∀ A c (w9 : World), Kd.C (Kd.int .u8) w9 A s.size (bytesOf s) → s.size ≤ c → Calls Tryd.prog 21 #[.slice A s.size c] w9 fun e w' => e = .returned (.string r) ∧ Below w9.heap.size w9 w' := by
      intro A c w9 hC hc
      have := hex_EncodeToString.calls k A c (bytesOf s) r w9 (by rw [hlen]; exact hC) (by rw [hlen]; exact hc) h
      rwa [hlen] at this
    go_enter Tryd.func11, Tryd.ntmps11
    go_wp2_with (first
      | ((with_reducible refine gate_dst (N := 1) rfl ?_); refine boxE_ (cs := #[.int .u64 a0, .int .u64 a1, .int .u64 a2, .int .u64 a3]) (t := 24) ?_; intro gb hg w7 BK0 hb; have BK := Aside0.mk BK0; clear BK0; replace HB := stepB_ hb; clear hb hg; obtain ⟨hcz_0, hcz_1, hcz_2, hcz_3, hfz_0, hfz_1, hfz_2, hfz_3⟩ := cz4_ BK.out)
      | ((with_reducible refine gate_callee (f := 10) rfl ?_); refine goL_ (some 4) Tryd.func10 #[.agg #[.int .u64 a0, .int .u64 a1, .int .u64 a2, .int .u64 a3]] ?_; (with_reducible refine (impl_HashBytes.calls k a0 a1 a2 a3 s _ hs1).mono ?_); rintro e w8 ⟨rfl, hb⟩; refine ⟨_, rfl, ?_⟩; replace HB := stepB_ hb; clear hb)
      | ((with_reducible refine gate_dst (N := 5) rfl ?_); refine bytes_event rfl (N := 5) rfl (s := s) (e := 5) hs ?hr ?_; (case hr => go_simp; rw [Lib.run_convert_string_bytes _ 9 29 5 s Tryd.underlying9 Tryd.underlying29 Tryd.underlying5]; rfl); intro A c w9 hC hc hb; replace HB := stepB_ hb; clear hb)
      | ((with_reducible refine gate_callee (f := 21) rfl ?_); refine goL_ (some 6) Tryd.func21 #[.slice A s.size c] ?_; refine (hcall A c w9 hC hc).mono ?_; rintro e w10 ⟨rfl, hb⟩; refine ⟨_, rfl, ?_⟩; replace HB := stepB_ hb; clear hb))
    go_ret
    exact ⟨rfl, bel_⟩
  · rw [if_neg hs] at h
    exact absurd h (by simp)
end Go.Proofs.YtflcbanemolkfaaDoor.B
