/- What the Go function impl.HashBack does: 32 bytes are a digest, other texts none. Condition: the text is no longer than a Go string may be. -/
import Derived.Test.YtflcbanemolkfaaDoorZHFGImplHash1
import Derived.Test.YtflcbanemolkfaaDoorZHFHBytesEv
namespace Go.Proofs.YtflcbanemolkfaaDoor.B
open Go.RowKit Go.Proofs.YtflcbanemolkfaaDoorW.PrintWords Go.Proofs.YtflcbanemolkfaaDoorW.PrintLast Go.Proofs.YtflcbanemolkfaaDoorW.PrintMore
set_option linter.unusedVariables false
set_option linter.unusedSimpArgs false
def impl_HashBack.f (a0 : ByteArray) : Option (Int × Int × Int × Int × Bool) :=
  if (a0.size : Int) = 32 then (impl_digestOf.f (bytesOf a0)).bind fun d => some (d.1, d.2.1, d.2.2.1, d.2.2.2, true) else some (0, 0, 0, 0, false)
set_option maxHeartbeats 8000000 in
set_option maxRecDepth 100000 in
theorem impl_HashBack.calls (a0 : ByteArray) (r1 : Int) (r2 : Int) (r3 : Int) (r4 : Int) (r5 : Bool) (w : World) (h : impl_HashBack.f a0 = some (r1, r2, r3, r4, r5)) :
    Calls Tryd.prog 9 #[.string a0] w fun e w' => e = .returned (.tuple #[.agg #[.int .u64 r1, .int .u64 r2, .int .u64 r3, .int .u64 r4], .bool r5]) ∧ Below w.heap.size w w' := by
  have hu30 := Tryd.underlying24
  have HB := Aside0.mk (Below.refl w.heap.size w)
  unfold impl_HashBack.f at h
  by_cases c2 : (a0.size : Int) = 32
  · rw [if_pos c2] at h
    have c2b0 : ((a0.size : Int) == 32) = true := beq_iff_eq.mpr c2
    have c2b1 : ((a0.size : Int) != 32) = false := bne_eq_false_iff_eq.mpr c2
    obtain ⟨d, hd, h⟩ := Option.bind_eq_some_iff.mp h
    simp only [Option.some.injEq, Prod.mk.injEq] at h
    obtain ⟨rfl, rfl, rfl, rfl, rfl⟩ := h
    have hs : a0.size ≤ 9223372036854775807 := by omega
    have hlen : (bytesOf a0).length = a0.size := bytesOf_length a0
    have hcall : ∀ A c (w9 : World), Kd.C (Kd.int .u8) w9 A a0.size (bytesOf a0) → a0.size ≤ c → Calls Tryd.prog 19 #[.slice A a0.size c] w9 fun e w' => e = .returned (.agg #[.int .u64 d.1, .int .u64 d.2.1, .int .u64 d.2.2.1, .int .u64 d.2.2.2]) ∧ Below w9.heap.size w9 w' := by
      intro A c w9 hC hc
      have := impl_digestOf.calls A c (bytesOf a0) d.1 d.2.1 d.2.2.1 d.2.2.2 w9 (by rw [hlen]; exact hC) (by rw [hlen]; exact hc) hd
      rwa [hlen] at this
    go_enter Tryd.func9, Tryd.ntmps9
    go_wp2_with (first
      | ((with_reducible refine gate_dst (N := 2) rfl ?_); refine box_event ?hg (N := 2) ?hd (cs := #[.int .u64 0, .int .u64 0, .int .u64 0, .int .u64 0]) (t := 24) ?hr ?_; (case hd => rfl); (case hg => rfl); (case hr => first | (go_simp; done) | (go_simp; rfl)); intro gb hg w7 BK hb; have HC := Aside0.mk (below_step HB.out hb); clear HB; have HB := HC; clear HC; have GW : w.heap.size ≤ gb := hg ▸ Nat.le_refl _; clear hb hg)
      | ((with_reducible refine gate_dst (N := 9) rfl ?_); refine bytes_event rfl (N := 9) rfl (s := a0) (e := 5) hs ?hr ?_; (case hr => go_simp; rw [Lib.run_convert_string_bytes _ 9 29 5 a0 Tryd.underlying9 Tryd.underlying29 Tryd.underlying5]; rfl); intro A c w9 hC hc hb9; have BK9 := blk_below BK hb9; clear BK; have BK := BK9; clear BK9; have HC := Aside0.mk (below_step HB.out hb9); clear HB hb9; have HB := HC; clear HC)
      | ((with_reducible refine gate_callee (f := 19) rfl ?_); refine goesL_ (some 10) rfl rfl Tryd.func19 (by kernel_rfl) rfl #[.slice A a0.size c] rfl (by (try simp only [List.map_toArray, List.map_cons, List.map_nil]); first | done | rfl) ?_; refine (hcall A c w9 hC hc).mono ?_; rintro e w10 ⟨rfl, hb10⟩; refine ⟨_, rfl, ?_⟩; have BK9 := blk_below BK hb10; clear BK; have BK := BK9; clear BK9; have HC := Aside0.mk (below_step HB.out hb10); clear HB hb10; have HB := HC; clear HC; have hcz_0 : w10.cell? ⟨gb, 0, none⟩ = some (.int .u64 0) := (blk_cell BK 0).trans rfl; have hcz_1 : w10.cell? ⟨gb, 1, none⟩ = some (.int .u64 0) := (blk_cell BK 1).trans rfl; have hcz_2 : w10.cell? ⟨gb, 2, none⟩ = some (.int .u64 0) := (blk_cell BK 2).trans rfl; have hcz_3 : w10.cell? ⟨gb, 3, none⟩ = some (.int .u64 0) := (blk_cell BK 3).trans rfl; have hfz_0 := blk_frozen BK 0; have hfz_1 := blk_frozen BK 1; have hfz_2 := blk_frozen BK 2; have hfz_3 := blk_frozen BK 3))
    refine bodyPost_ret (results_ct rfl _ _ gb 24 #[.int .u64 d.1, .int .u64 d.2.1, .int .u64 d.2.2.1, .int .u64 d.2.2.2] (0, 0) _ rfl (by refine blk_put (cs := #[.int .u64 d.1, .int .u64 d.2.1, .int .u64 d.2.2.1, .int .u64 0]) ?_ 3 _ rfl; refine blk_put (cs := #[.int .u64 d.1, .int .u64 d.2.1, .int .u64 0, .int .u64 0]) ?_ 2 _ rfl; refine blk_put (cs := #[.int .u64 d.1, .int .u64 0, .int .u64 0, .int .u64 0]) ?_ 1 _ rfl; refine blk_put (cs := #[.int .u64 0, .int .u64 0, .int .u64 0, .int .u64 0]) ?_ 0 _ rfl; exact BK) Tryd.underlying24 rfl (by kernel_rfl)) rfl ?_
    exact ⟨rfl, by repeat (first | exact HB.out | refine below_set ?_ GW)⟩
  · rw [if_neg c2] at h
    have c2b0 : ((a0.size : Int) == 32) = false := beq_eq_false_iff_ne.mpr c2
    have c2b1 : ((a0.size : Int) != 32) = true := bne_iff_ne.mpr c2
    simp only [Option.some.injEq, Prod.mk.injEq] at h
    obtain ⟨rfl, rfl, rfl, rfl, rfl⟩ := h
    go_enter Tryd.func9, Tryd.ntmps9
    go_wp2_with (first | ((with_reducible refine gate_dst (N := 2) rfl ?_); refine box_event ?hg (N := 2) ?hd (cs := #[.int .u64 0, .int .u64 0, .int .u64 0, .int .u64 0]) (t := 24) ?hr ?_; (case hd => rfl); (case hg => rfl); (case hr => first | (go_simp; done) | (go_simp; rfl)); intro gb hg w7 BK hb; have HC := Aside0.mk (below_step HB.out hb); clear HB; have HB := HC; clear HC; have GW : w.heap.size ≤ gb := hg ▸ Nat.le_refl _; clear hb hg; have hcz_0 : w7.cell? ⟨gb, 0, none⟩ = some (.int .u64 0) := (blk_cell BK 0).trans rfl; have hcz_1 : w7.cell? ⟨gb, 1, none⟩ = some (.int .u64 0) := (blk_cell BK 1).trans rfl; have hcz_2 : w7.cell? ⟨gb, 2, none⟩ = some (.int .u64 0) := (blk_cell BK 2).trans rfl; have hcz_3 : w7.cell? ⟨gb, 3, none⟩ = some (.int .u64 0) := (blk_cell BK 3).trans rfl; have hfz_0 := blk_frozen BK 0; have hfz_1 := blk_frozen BK 1; have hfz_2 := blk_frozen BK 2; have hfz_3 := blk_frozen BK 3))
    refine bodyPost_ret (results_ct rfl _ _ gb 24 #[.int .u64 0, .int .u64 0, .int .u64 0, .int .u64 0] (0, 0) _ rfl (by refine blk_put (cs := #[.int .u64 0, .int .u64 0, .int .u64 0, .int .u64 0]) ?_ 3 _ rfl; refine blk_put (cs := #[.int .u64 0, .int .u64 0, .int .u64 0, .int .u64 0]) ?_ 2 _ rfl; refine blk_put (cs := #[.int .u64 0, .int .u64 0, .int .u64 0, .int .u64 0]) ?_ 1 _ rfl; refine blk_put (cs := #[.int .u64 0, .int .u64 0, .int .u64 0, .int .u64 0]) ?_ 0 _ rfl; exact BK) Tryd.underlying24 rfl (by kernel_rfl)) rfl ?_
    exact ⟨rfl, by repeat (first | exact HB.out | refine below_set ?_ GW)⟩
end Go.Proofs.YtflcbanemolkfaaDoor.B
