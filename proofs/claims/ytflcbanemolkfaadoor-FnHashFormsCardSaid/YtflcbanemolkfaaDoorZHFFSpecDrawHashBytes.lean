/- What the Go functions loop.example/belfry/spec.DrawHashBytes do is what the Lean functions .f of their names here say; condition: .f gives an answer. (Written by the session's program pp.py over the kit's print; Lean checks it.) -/
import Derived.Test.YtflcbanemolkfaaDoorZHFK
import Derived.Test.YtflcbanemolkfaaDoorZHFM
import Derived.Test.YtflcbanemolkfaaDoorZHFFSpecL1RdDigest
import Derived.Test.YtflcbanemolkfaaDoorZHFGL11
namespace Go.Proofs.YtflcbanemolkfaaDoor.B
open Go.RowKit Go.Proofs.YtflcbanemolkfaaDoorW.PrintWords Go.Proofs.YtflcbanemolkfaaDoorW.PrintLast Go.Proofs.YtflcbanemolkfaaDoorW.PrintMore
attribute [local go_sem] max2_int min2_int max_two min_two max_three min_three max_four min_four
set_option linter.unusedVariables false
set_option linter.unusedSimpArgs false
section
def spec_DrawHashBytes.f (k : Nat) (l0 : List Int) : Option (Int × Int × Int × Int) := (spec_l1Open.f l0).bind fun bt209 => ((spec_l1Rd_digest.f k bt209.1 bt209.2).bind fun bt212 => (some (bt212.1, bt212.2.1, bt212.2.2.1, bt212.2.2.2.1)))
set_option maxHeartbeats 8000000 in
set_option maxRecDepth 100000 in
theorem spec_DrawHashBytes.calls (k : Nat) (A0 : Option Addr) (c0 : Nat) (l0 : List Int) (r1 : Int) (r2 : Int) (r3 : Int) (r4 : Int) (w : World) (hr0 : Kd.C (Kd.int .u8) w A0 l0.length l0) (hc0 : l0.length ≤ c0) (h : spec_DrawHashBytes.f k l0 = some (r1, r2, r3, r4)) :
    Calls Tryd.prog 8 #[.slice A0 l0.length c0] w fun e w' => e = .returned (.agg #[.int .u64 r1, .int .u64 r2, .int .u64 r3, .int .u64 r4]) ∧ Below w.heap.size w w' := by
  have hu24 := Tryd.underlying24
  have HR0 := Aside0.mk hr0
  have HC0 := Aside0.mk hc0
  clear hr0 hc0
  have HB := Aside0.mk (Below.refl w.heap.size w)
  have H : ((spec_l1Open.f l0).bind fun bt209 => ((spec_l1Rd_digest.f k bt209.1 bt209.2).bind fun bt212 => (some (bt212.1, bt212.2.1, bt212.2.2.1, bt212.2.2.2.1)))) = some (r1, r2, r3, r4) := h
  clear h
  obtain ⟨⟨t209, t210⟩, A2, H⟩ := bnd_ H
  dsimp only at H
  obtain ⟨⟨t212, t213, t214, t215, t216⟩, A3, H⟩ := bnd_ H
  dsimp only at H
  simp only [Option.some.injEq, Prod.mk.injEq] at H
  obtain ⟨rfl, rfl, rfl, rfl⟩ := H
  go_enter Tryd.func8, Tryd.ntmps8
  go_wp2_with (first | ((with_reducible refine gate_dst (N := 2) rfl ?_); refine boxE_ (cs := #[.int .u64 0, .int .u64 0, .int .u64 0, .int .u64 0]) (t := 24) ?_; intro gb208 hg w4 hbox hb; have BK208 := Aside0.mk (hbox); have GW208 := sizeB_ hg; have GE208 := sizeB_ hg; replace HB := stepB_ hb; clear hb hbox hg) | ((with_reducible refine gate_callee (f := 17) rfl ?_); refine goL_ (some 5) Tryd.func17 #[.slice A0 l0.length c0] ?_; (with_reducible refine (spec_l1Open.calls _ _ l0 t209 t210 w _ ?side1 ?side2 ?side3 A2.out).mono ?_); (case side1 => exact bel_); (case side2 => exact HR0.out); (case side3 => exact HC0.out); rintro e w5 ⟨g211, rfl, hi, hb, hb2⟩; refine ⟨_, rfl, ?_⟩; replace HB := Aside0.mk (hb); have HI211 := Aside0.mk (hi); have NB211_208 := Aside0.mk (IsS53.ne_blk hi (blk_below (g := gb208) (o := .cells #[.int .u64 0, .int .u64 0, .int .u64 0, .int .u64 0] 24 (0, 0)) (blkU_ BK208.out) hb2) (by decide)); have NB208_211 := Aside0.mk (Ne.symm (IsS53.ne_blk hi (blk_below (g := gb208) (o := .cells #[.int .u64 0, .int .u64 0, .int .u64 0, .int .u64 0] 24 (0, 0)) (blkU_ BK208.out) hb2) (by decide))); replace BK208 := Aside0.mk (blk_below (g := gb208) (o := .cells #[.int .u64 0, .int .u64 0, .int .u64 0, .int .u64 0] 24 (0, 0)) (blkU_ BK208.out) hb2); (try clear hb); (try clear hb2); (try clear hk); (try clear hi)) | ((with_reducible refine gate_callee (f := 18) rfl ?_); refine goL_ (some 7) Tryd.func18 #[.pointer (some ⟨g211, 0, none⟩)] ?_; (with_reducible refine (spec_l1Rd_digest.calls k g211 t209 t210 t212 t213 t214 t215 t216 w _ ?side1 ?side2 A3.out).mono ?_); (case side1 => repeat (first | (with_reducible first | exact HI211.out | apply IsS53.alloc | apply IsS53.drewN | apply IsS53.drew | apply IsS53.set_1 | refine IsS53.far ?_ NB211_208.out _) | exact HI211.out)); (case side2 => repeat (first | (with_reducible first | exact HB.out | apply below_alloc | apply pw_below_drewN | apply below_drew1 | refine below_set ?_ (IsS53.ge HI211.out) | refine below_set ?_ GE208.out) | exact HB.out)); rintro e w6 ⟨rfl, hi, hb, hk⟩; refine ⟨_, rfl, ?_⟩; replace BK208 := Aside0.mk (KeepBut.blk hk (g' := gb208) (o := .cells #[.int .u64 0, .int .u64 0, .int .u64 0, .int .u64 0] 24 (0, 0)) (blkU_ BK208.out) NB208_211.out (by simp)); replace HB := Aside0.mk (hb); replace HI211 := Aside0.mk (hi); (try clear hb); (try clear hb2); (try clear hk); (try clear hi); have hnb7 := NB208_211.out; have hnc7 := NB211_208.out; obtain ⟨hcz8_0, hcz8_1, hcz8_2, hcz8_3, hfz8_0, hfz8_1, hfz8_2, hfz8_3⟩ := cz4_ BK208.out))
  refine bodyPost_ret (results_cell_row rfl _ _ gb208 24 #[.int .u64 t212, .int .u64 t213, .int .u64 t214, .int .u64 t215] (0, 0) _ rfl (blkF_ BK208.out) Tryd.underlying24 rfl (by kernel_rfl)) rfl ?_
  exact ⟨rfl_, by repeat (first | (with_reducible first | exact HB.out | apply below_alloc | apply pw_below_drewN | apply below_drew1 | refine below_set ?_ (IsS53.ge HI211.out) | refine below_set ?_ GE208.out) | exact HB.out)⟩
end
end Go.Proofs.YtflcbanemolkfaaDoor.B
