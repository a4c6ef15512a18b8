/- What the Go functions loop.example/belfry/spec.DrawGrowthOf do is what the Lean functions .f of their names here say; condition: .f gives an answer. (Written by the session's program pp.py over the kit's print; Lean checks it.) -/
import Derived.Test.YtflckegggopdnaaZGPK
import Derived.Test.YtflckegggopdnaaZGPM
import Derived.Test.YtflckegggopdnaaZGPFSpecL2RdSome
import Derived.Test.YtflckegggopdnaaZGPGL11
import Derived.Test.YtflckegggopdnaaZGPHL3Open
import Derived.Test.YtflckegggopdnaaZGPHL2Open
namespace Go.Proofs.Ytflckegggopdnaa.B
open Go.RowKit Go.Proofs.YtflckegggopdnaaW.PrintWords Go.Proofs.YtflckegggopdnaaW.PrintLast Go.Proofs.YtflckegggopdnaaW.PrintMore
attribute [local go_sem] max2_int min2_int max_two min_two max_three min_three max_four min_four
set_option linter.unusedVariables false
set_option linter.unusedSimpArgs false
section
def spec_DrawGrowthOf.f (k : Nat) (l0 : List Int) : Option (List ByteArray × Int) := (spec_l3Open.f l0).bind fun bt1227 => ((spec_l2Rd_some.f k bt1227.1 bt1227.2).bind fun bt1230 => ((spec_l1Rd_pick.f k bt1227.1 bt1230.2 (wrap64 ((bt1230.1.length : Int) + 3))).bind fun bt1234 => (some (bt1230.1, wrap64 (bt1234.1 - 1)))))
set_option maxHeartbeats 8000000 in
set_option maxRecDepth 100000 in
theorem spec_DrawGrowthOf.calls (k : Nat) (A0 : Option Addr) (c0 : Nat) (l0 : List Int) (r1 : List ByteArray) (r2 : Int) (w : World) (hr0 : Kd.C (Kd.int .u8) w A0 l0.length l0) (hc0 : l0.length ≤ c0) (h : spec_DrawGrowthOf.f k l0 = some (r1, r2)) :
    Calls Try.prog 28 #[.slice A0 l0.length c0] w fun e w' => ∃ v0_ : Value, e = .returned (.tuple #[v0_, .int .i64 r2]) ∧ Kd.R Kd.string 9 w' w.heap.size (fun _ => True) v0_ r1 ∧ Below w.heap.size w w' := by
  have HR0 := Aside0.mk hr0
  have HC0 := Aside0.mk hc0
  clear hr0 hc0
  have HB := Aside0.mk (Below.refl w.heap.size w)
  have H : ((spec_l3Open.f l0).bind fun bt1227 => ((spec_l2Rd_some.f k bt1227.1 bt1227.2).bind fun bt1230 => ((spec_l1Rd_pick.f k bt1227.1 bt1230.2 (wrap64 ((bt1230.1.length : Int) + 3))).bind fun bt1234 => (some (bt1230.1, wrap64 (bt1234.1 - 1)))))) = some (r1, r2) := h
  clear h
  obtain ⟨⟨t1227, t1228⟩, A2, H⟩ := bnd_ H
  dsimp only at H
  obtain ⟨⟨t1230, t1233⟩, A3, H⟩ := bnd_ H
  dsimp only at H
  obtain ⟨⟨t1234, t1235⟩, A4, H⟩ := bnd_ H
  dsimp only at H
  simp only [Option.some.injEq, Prod.mk.injEq] at H
  obtain ⟨rfl, rfl⟩ := H
  go_enter Try.func28, Try.ntmps28
  go_wp2_with (first | ((with_reducible refine gate_callee (f := 58) rfl ?_); refine goL_ (some 7) Try.func58 #[.slice A0 l0.length c0] ?_; (with_reducible refine (spec_l3Open.calls _ _ l0 t1227 t1228 w _ ?side1 ?side2 ?side3 A2.out).mono ?_); (case side1 => exact bel_); (case side2 => exact HR0.out); (case side3 => exact HC0.out); rintro e w5 ⟨g1229, g2_, g3_, rfl, hp3_, hp_, hi, hb, hb2⟩; refine ⟨_, rfl, ?_⟩; have HP := Aside0.mk hp_; have hn2 := wr_ne hp_ (by decide) hi; have hn3 := wr_ne hp3_ (by decide) hi; have hq2 : w5.cell? ⟨g2_, 0, none⟩ = some (.pointer (some ⟨g1229, 0, none⟩)) := (blk_cell hp_ 0).trans rfl; have hq3 : w5.cell? ⟨g3_, 0, none⟩ = some (.pointer (some ⟨g2_, 0, none⟩)) := (blk_cell hp3_ 0).trans rfl; clear hp_ hp3_; replace HB := Aside0.mk (hb); have HI1229 := Aside0.mk (hi); (try clear hb); (try clear hb2); (try clear hk); (try clear hi)) | ((with_reducible refine gate_callee (f := 59) rfl ?_); refine goL_ (some 12) Try.func59 #[.pointer (some ⟨g2_, 0, none⟩)] ?_; (with_reducible refine (spec_l2Rd_some.calls k g1229 t1227 t1228 t1230 t1233 w _ g2_ (blkU_ HP.out) ?side1 ?side2 A3.out).mono ?_); (case side1 => repeat (first | (with_reducible first | exact HI1229.out | apply IsS137.alloc | apply IsS137.drewN | apply IsS137.drew | apply IsS137.set_1) | exact HI1229.out)); (case side2 => repeat (first | (with_reducible first | exact HB.out | apply below_alloc | apply pw_below_drewN | apply below_drew1 | refine below_set ?_ (IsS137.ge HI1229.out)) | exact HB.out)); rintro e w6 ⟨v1231, rfl, ho0, hi, hb, hk⟩; refine ⟨_, rfl, ?_⟩; have hq2_ := keep_cell hk hq2 hn2; have hq3_ := keep_cell hk hq3 hn3; have HO1232 := Aside0.mk (Kd.R_lower ho0 (below_size (by repeat (first | (with_reducible first | exact HB.out | apply below_alloc | apply pw_below_drewN | apply below_drew1 | refine below_set ?_ (IsS137.ge HI1229.out)) | exact HB.out)))); replace HB := Aside0.mk (hb); replace HI1229 := Aside0.mk (hi); (try clear hb); (try clear hb2); (try clear hk); (try clear hi); (try clear ho0); obtain ⟨Ao7, co7, eo7⟩ := Kd.R_slice HO1232.out; subst eo7) | ((with_reducible refine gate_callee (f := 60) rfl ?_); refine goL_ (some 24) Try.func60 #[.pointer (some ⟨g1229, 0, none⟩), .int .i64 (wrap64 ((t1230.length : Int) + 3))] ?_; (with_reducible refine (spec_l1Rd_pick.calls k g1229 t1227 t1233 (wrap64 ((t1230.length : Int) + 3)) t1234 t1235 w _ ?side1 ?side2 A4.out).mono ?_); (case side1 => repeat (first | (with_reducible first | exact HI1229.out | apply IsS137.alloc | apply IsS137.drewN | apply IsS137.drew | apply IsS137.set_1) | exact HI1229.out)); (case side2 => repeat (first | (with_reducible first | exact HB.out | apply below_alloc | apply pw_below_drewN | apply below_drew1 | refine below_set ?_ (IsS137.ge HI1229.out)) | exact HB.out)); rintro e w8 ⟨rfl, hi, hb, hk⟩; refine ⟨_, rfl, ?_⟩; replace HO1232 := Aside0.mk (Kd.R_mono (Kd.R_keep (IsS137.apart (show IsS137 w _ g1229 t1227 t1233 from by repeat (first | (with_reducible first | exact HI1229.out | apply IsS137.alloc | apply IsS137.drewN | apply IsS137.drew | apply IsS137.set_1) | exact HI1229.out)) (kdU_ HO1232.out) (by decide)) hk (fun _ h => h.2)) (fun _ h => h.1)); replace HB := Aside0.mk (hb); replace HI1229 := Aside0.mk (hi); (try clear hb); (try clear hb2); (try clear hk); (try clear hi)))
  go_ret2
  exact ⟨_, rfl_, by (with_reducible repeat (first | apply Kd.R_alloc | apply Kd.R_drewN | apply Kd.R_drew)); exact HO1232.out, by repeat (first | (with_reducible first | exact HB.out | apply below_alloc | apply pw_below_drewN | apply below_drew1 | refine below_set ?_ (IsS137.ge HI1229.out)) | exact HB.out)⟩
end
end Go.Proofs.Ytflckegggopdnaa.B
