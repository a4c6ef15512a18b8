/- What the Go function loop.example/belfry/spec.DrawHashBlock does is what the Lean function .f of its name here says; condition: .f gives an answer. (Written by the session's program pp.py over the kit's print; Lean checks it.) -/
import Derived.Test.YtfbhlofifodkjaaK
import Derived.Test.YtfbhlofifodkjaaFSpecL1Open
import Derived.Test.YtfbhlofifodkjaaFSpecL1RdDigest
namespace Go.Proofs.Ytfbhlofifodkjaa.B
open Go.RowKit Go.Proofs.YtfbhlofifodkjaaW.PrintWords Go.Proofs.YtfbhlofifodkjaaW.PrintLast Go.Proofs.YtfbhlofifodkjaaW.PrintMore
attribute [local go_sem] max2_int min2_int max_two min_two max_three min_three max_four min_four   -- for this text's walks alone
set_option linter.unusedVariables false
set_option linter.unusedSimpArgs false

/-! ### spec_DrawHashBlock: function 62 -/
def spec_DrawHashBlock.f (k : Nat) (l0 : List Int) : Option (Int × Int × Int × Int × Int × Int × Int × Int) := (spec_l1Open.f l0).bind fun bt601 => ((spec_l1Rd_digest.f k bt601.1 bt601.2).bind fun bt604 => ((spec_l1Rd_digest.f k bt601.1 bt604.2.2.2.2).bind fun bt610 => (some (bt604.1, bt604.2.1, bt604.2.2.1, bt604.2.2.2.1, bt610.1, bt610.2.1, bt610.2.2.1, bt610.2.2.2.1))))
theorem spec_DrawHashBlock.mono : ∀ a0 k, LeO (spec_DrawHashBlock.f k a0) (spec_DrawHashBlock.f (k + 1) a0) := by
  intro a0 k
  unfold spec_DrawHashBlock.f
  repeat' first
      | (with_reducible exact spec_l1Rd_digest.mono _ _ _)
      | (with_reducible exact LeO.refl _)
      | (with_reducible exact LeO.none _)
      | (with_reducible refine LeO.ite ?_ ?_)
      | (with_reducible refine LeO.bind ?_ (fun _ => ?_))
      | exact spec_l1Rd_digest.mono _ _ _
      | exact LeO.none _
      | refine LeO.ite ?_ ?_
      | refine LeO.bind ?_ (fun _ => ?_)
set_option maxHeartbeats 8000000 in
set_option maxRecDepth 100000 in
theorem spec_DrawHashBlock.calls (k : Nat) (A0 : Option Addr) (c0 : Nat) (l0 : List Int) (r1 : Int) (r2 : Int) (r3 : Int) (r4 : Int) (r5 : Int) (r6 : Int) (r7 : Int) (r8 : Int) (w : World) (hr0 : Kd.C (Kd.int .u8) w A0 l0.length l0) (hc0 : l0.length ≤ c0) (h : spec_DrawHashBlock.f k l0 = some (r1, r2, r3, r4, r5, r6, r7, r8)) :
    Calls Try.prog 62 #[.slice A0 l0.length c0] w fun e w' => e = .returned (.tuple #[.agg #[.int .u64 r1, .int .u64 r2, .int .u64 r3, .int .u64 r4], .agg #[.int .u64 r5, .int .u64 r6, .int .u64 r7, .int .u64 r8]]) ∧ Below w.heap.size w w' := by
  have hu30 := Try.underlying30
  have HR0 := Aside0.mk hr0
  have HC0 := Aside0.mk hc0
  clear hr0 hc0
  have HB := Aside0.mk (Below.refl w.heap.size w)
  have H : ((spec_l1Open.f l0).bind fun bt601 => ((spec_l1Rd_digest.f k bt601.1 bt601.2).bind fun bt604 => ((spec_l1Rd_digest.f k bt601.1 bt604.2.2.2.2).bind fun bt610 => (some (bt604.1, bt604.2.1, bt604.2.2.1, bt604.2.2.2.1, bt610.1, bt610.2.1, bt610.2.2.1, bt610.2.2.2.1))))) = some (r1, r2, r3, r4, r5, r6, r7, r8) := h
  clear h
  replace H := Option.bind_eq_some_iff.mp H
  obtain ⟨⟨t601, t602⟩, A20, H⟩ := H
  replace H : ((spec_l1Rd_digest.f k t601 t602).bind fun bt604 => ((spec_l1Rd_digest.f k t601 bt604.2.2.2.2).bind fun bt610 => (some (bt604.1, bt604.2.1, bt604.2.2.1, bt604.2.2.2.1, bt610.1, bt610.2.1, bt610.2.2.1, bt610.2.2.2.1)))) = some (r1, r2, r3, r4, r5, r6, r7, r8) := H
  have A2 := Aside0.mk A20
  clear A20
  replace H := Option.bind_eq_some_iff.mp H
  obtain ⟨⟨t604, t605, t606, t607, t608⟩, A30, H⟩ := H
  replace H : ((spec_l1Rd_digest.f k t601 t608).bind fun bt610 => (some (t604, t605, t606, t607, bt610.1, bt610.2.1, bt610.2.2.1, bt610.2.2.2.1))) = some (r1, r2, r3, r4, r5, r6, r7, r8) := H
  have A3 := Aside0.mk A30
  clear A30
  replace H := Option.bind_eq_some_iff.mp H
  obtain ⟨⟨t610, t611, t612, t613, t614⟩, A40, H⟩ := H
  replace H : (some (t604, t605, t606, t607, t610, t611, t612, t613)) = some (r1, r2, r3, r4, r5, r6, r7, r8) := H
  have A4 := Aside0.mk A40
  clear A40
  simp only [Option.some.injEq, Prod.mk.injEq] at H
  obtain ⟨rfl, rfl, rfl, rfl, rfl, rfl, rfl, rfl⟩ := H
  go_enter Try.func62, Try.ntmps62
  try go_wp2_with (first | ((with_reducible refine gate_dst (N := 2) rfl ?_); refine box_event ?hg (N := 2) ?hd (cs := #[.int .u64 0, .int .u64 0, .int .u64 0, .int .u64 0]) (t := 30) ?hr ?_; (case hd => rfl); (case hg => rfl); (case hr => first | (go_simp; done) | (go_simp; rfl)); intro gb599 hg w5 hbox hb; have n0_ := Aside0.mk (below_step (by repeat (first | (with_reducible first | exact HB.out | apply below_alloc | apply pw_below_drewN | apply below_drew1) | exact HB.out)) hb); have n1_ := Aside0.mk (hbox); have n2_ := Aside0.mk ((by rw [hg]; exact (below_size (by repeat (first | (with_reducible first | exact HB.out | apply below_alloc | apply pw_below_drewN | apply below_drew1) | exact HB.out))) : w.heap.size ≤ gb599)); have n3_ := Aside0.mk ((by rw [hg]; exact (below_size (by repeat (first | (with_reducible first | exact HB.out | apply below_alloc | apply pw_below_drewN | apply below_drew1) | exact HB.out))) : w.heap.size ≤ gb599)); clear HB; have HB := n0_; have BK599 := n1_; have GW599 := n2_; have GE599 := n3_; clear n0_ n1_ n2_ n3_; clear hb hbox hg) | ((with_reducible refine gate_dst (N := 3) rfl ?_); refine box_event ?hg (N := 3) ?hd (cs := #[.int .u64 0, .int .u64 0, .int .u64 0, .int .u64 0]) (t := 30) ?hr ?_; (case hd => rfl); (case hg => rfl); (case hr => first | (go_simp; done) | (go_simp; rfl)); intro gb600 hg w6 hbox hb; have n0_ := Aside0.mk (blk_below (g := gb599) (o := .cells #[.int .u64 0, .int .u64 0, .int .u64 0, .int .u64 0] 30 (0, 0)) (by (with_reducible repeat (first | refine blk_drewN ?_ _ | refine blk_drew ?_ | refine blk_alloc ?_ _)); exact BK599.out) hb); have n1_ := Aside0.mk (below_step (by repeat (first | (with_reducible first | exact HB.out | apply below_alloc | apply pw_below_drewN | apply below_drew1 | refine below_set ?_ GE599.out) | exact HB.out)) hb); have n2_ := Aside0.mk (hbox); have n3_ := Aside0.mk ((by rw [hg]; exact (below_size (by repeat (first | (with_reducible first | exact HB.out | apply below_alloc | apply pw_below_drewN | apply below_drew1 | refine below_set ?_ GE599.out) | exact HB.out))) : w.heap.size ≤ gb600)); have n4_ := Aside0.mk ((by rw [hg]; exact (below_size (by repeat (first | (with_reducible first | exact HB.out | apply below_alloc | apply pw_below_drewN | apply below_drew1 | refine below_set ?_ GE599.out) | exact HB.out))) : w.heap.size ≤ gb600)); have n5_ := Aside0.mk ((by rw [hg]; exact Nat.ne_of_lt (blk_lt (g := gb599) (o := .cells #[.int .u64 0, .int .u64 0, .int .u64 0, .int .u64 0] 30 (0, 0)) (by (with_reducible repeat (first | refine blk_drewN ?_ _ | refine blk_drew ?_ | refine blk_alloc ?_ _)); exact BK599.out)) : gb599 ≠ gb600)); have n6_ := Aside0.mk ((by rw [hg]; exact Nat.ne_of_gt (blk_lt (g := gb599) (o := .cells #[.int .u64 0, .int .u64 0, .int .u64 0, .int .u64 0] 30 (0, 0)) (by (with_reducible repeat (first | refine blk_drewN ?_ _ | refine blk_drew ?_ | refine blk_alloc ?_ _)); exact BK599.out)) : gb600 ≠ gb599)); clear BK599; clear HB; have BK599 := n0_; have HB := n1_; have BK600 := n2_; have GW600 := n3_; have GE600 := n4_; have NB599_600 := n5_; have NB600_599 := n6_; clear n0_ n1_ n2_ n3_ n4_ n5_ n6_; clear hb hbox hg) | ((with_reducible refine gate_callee (f := 103) rfl ?_); refine goesL_ (some 7) rfl rfl Try.func103 (by kernel_rfl) rfl #[.slice A0 l0.length c0] rfl (by (try simp only [List.map_toArray, List.map_cons, List.map_nil]); first | done | rfl | (simp only [List.length_drop, List.length_take]; rfl)) ?_; (with_reducible refine (spec_l1Open.calls _ _ l0 t601 t602 w _ ?side1 ?side2 ?side3 A2.out).mono ?_); (case side1 => repeat (first | (with_reducible first | exact HB.out | apply below_alloc | apply pw_below_drewN | apply below_drew1 | refine below_set ?_ GE599.out | refine below_set ?_ GE600.out) | exact HB.out)); (case side2 => exact HR0.out); (case side3 => exact HC0.out); rintro e w7 ⟨g603, rfl, hi, hb, hb2⟩; refine ⟨_, rfl, ?_⟩; have n0_ := Aside0.mk (blk_below (g := gb599) (o := .cells #[.int .u64 0, .int .u64 0, .int .u64 0, .int .u64 0] 30 (0, 0)) (by (with_reducible repeat (first | refine blk_drewN ?_ _ | refine blk_drew ?_ | refine blk_alloc ?_ _)); exact BK599.out) hb2); have n1_ := Aside0.mk (blk_below (g := gb600) (o := .cells #[.int .u64 0, .int .u64 0, .int .u64 0, .int .u64 0] 30 (0, 0)) (by (with_reducible repeat (first | refine blk_drewN ?_ _ | refine blk_drew ?_ | refine blk_alloc ?_ _)); exact BK600.out) hb2); have n2_ := Aside0.mk (hb); have n3_ := Aside0.mk (hi); have n4_ := Aside0.mk (IsS120.ne_blk hi (blk_below (g := gb599) (o := .cells #[.int .u64 0, .int .u64 0, .int .u64 0, .int .u64 0] 30 (0, 0)) (by (with_reducible repeat (first | refine blk_drewN ?_ _ | refine blk_drew ?_ | refine blk_alloc ?_ _)); exact BK599.out) hb2) (by decide)); have n5_ := Aside0.mk (Ne.symm (IsS120.ne_blk hi (blk_below (g := gb599) (o := .cells #[.int .u64 0, .int .u64 0, .int .u64 0, .int .u64 0] 30 (0, 0)) (by (with_reducible repeat (first | refine blk_drewN ?_ _ | refine blk_drew ?_ | refine blk_alloc ?_ _)); exact BK599.out) hb2) (by decide))); have n6_ := Aside0.mk (IsS120.ne_blk hi (blk_below (g := gb600) (o := .cells #[.int .u64 0, .int .u64 0, .int .u64 0, .int .u64 0] 30 (0, 0)) (by (with_reducible repeat (first | refine blk_drewN ?_ _ | refine blk_drew ?_ | refine blk_alloc ?_ _)); exact BK600.out) hb2) (by decide)); have n7_ := Aside0.mk (Ne.symm (IsS120.ne_blk hi (blk_below (g := gb600) (o := .cells #[.int .u64 0, .int .u64 0, .int .u64 0, .int .u64 0] 30 (0, 0)) (by (with_reducible repeat (first | refine blk_drewN ?_ _ | refine blk_drew ?_ | refine blk_alloc ?_ _)); exact BK600.out) hb2) (by decide))); clear BK599; clear BK600; clear HB; have BK599 := n0_; have BK600 := n1_; have HB := n2_; have HI603 := n3_; have NB603_599 := n4_; have NB599_603 := n5_; have NB603_600 := n6_; have NB600_603 := n7_; clear n0_ n1_ n2_ n3_ n4_ n5_ n6_ n7_; (try clear hb); (try clear hb2); (try clear hk); (try clear hi)) | ((with_reducible refine gate_callee (f := 104) rfl ?_); refine goesL_ (some 9) rfl rfl Try.func104 (by kernel_rfl) rfl #[.pointer (some ⟨g603, 0, none⟩)] rfl (by (try simp only [List.map_toArray, List.map_cons, List.map_nil]); first | done | rfl | (simp only [List.length_drop, List.length_take]; rfl)) ?_; (with_reducible refine (spec_l1Rd_digest.calls k g603 t601 t602 t604 t605 t606 t607 t608 w _ ?side1 ?side2 A3.out).mono ?_); (case side1 => repeat (first | (with_reducible first | exact HI603.out | apply IsS120.alloc | apply IsS120.drewN | apply IsS120.drew | apply IsS120.set_1 | refine IsS120.far ?_ NB603_599.out _ | refine IsS120.far ?_ NB603_600.out _) | exact HI603.out)); (case side2 => repeat (first | (with_reducible first | exact HB.out | apply below_alloc | apply pw_below_drewN | apply below_drew1 | refine below_set ?_ (IsS120.ge HI603.out) | refine below_set ?_ GE599.out | refine below_set ?_ GE600.out) | exact HB.out)); rintro e w8 ⟨rfl, hi, hb, hk⟩; refine ⟨_, rfl, ?_⟩; have n0_ := Aside0.mk (KeepBut.blk hk (g' := gb599) (o := .cells #[.int .u64 0, .int .u64 0, .int .u64 0, .int .u64 0] 30 (0, 0)) (by (with_reducible repeat (first | refine blk_drewN ?_ _ | refine blk_drew ?_ | refine blk_alloc ?_ _)); exact BK599.out) NB599_603.out (by simp)); have n1_ := Aside0.mk (KeepBut.blk hk (g' := gb600) (o := .cells #[.int .u64 0, .int .u64 0, .int .u64 0, .int .u64 0] 30 (0, 0)) (by (with_reducible repeat (first | refine blk_drewN ?_ _ | refine blk_drew ?_ | refine blk_alloc ?_ _)); exact BK600.out) NB600_603.out (by simp)); have n2_ := Aside0.mk (hb); have n3_ := Aside0.mk (hi); clear BK599; clear BK600; clear HB; clear HI603; have BK599 := n0_; have BK600 := n1_; have HB := n2_; have HI603 := n3_; clear n0_ n1_ n2_ n3_; (try clear hb); (try clear hb2); (try clear hk); (try clear hi)) | ((with_reducible refine gate_dst (N := 5) rfl ?_); refine box_event ?hg (N := 5) ?hd (cs := #[.int .u64 0, .int .u64 0, .int .u64 0, .int .u64 0]) (t := 30) ?hr ?_; (case hd => rfl); (case hg => rfl); (case hr => first | (go_simp; done) | (go_simp; rfl)); intro gb609 hg w9 hbox hb; have n0_ := Aside0.mk (blk_below (g := gb599) (o := .cells #[.int .u64 0, .int .u64 0, .int .u64 0, .int .u64 0] 30 (0, 0)) (by (with_reducible repeat (first | refine blk_drewN ?_ _ | refine blk_drew ?_ | refine blk_alloc ?_ _)); exact BK599.out) hb); have n1_ := Aside0.mk (blk_below (g := gb600) (o := .cells #[.int .u64 0, .int .u64 0, .int .u64 0, .int .u64 0] 30 (0, 0)) (by (with_reducible repeat (first | refine blk_drewN ?_ _ | refine blk_drew ?_ | refine blk_alloc ?_ _)); exact BK600.out) hb); have n2_ := Aside0.mk (IsS120.below (by repeat (first | (with_reducible first | exact HI603.out | apply IsS120.alloc | apply IsS120.drewN | apply IsS120.drew | apply IsS120.set_1 | refine IsS120.far ?_ NB603_599.out _ | refine IsS120.far ?_ NB603_600.out _) | exact HI603.out)) hb); have n3_ := Aside0.mk (below_step (by repeat (first | (with_reducible first | exact HB.out | apply below_alloc | apply pw_below_drewN | apply below_drew1 | refine below_set ?_ (IsS120.ge HI603.out) | refine below_set ?_ GE599.out | refine below_set ?_ GE600.out) | exact HB.out)) hb); have n4_ := Aside0.mk (hbox); have n5_ := Aside0.mk ((by rw [hg]; exact (below_size (by repeat (first | (with_reducible first | exact HB.out | apply below_alloc | apply pw_below_drewN | apply below_drew1 | refine below_set ?_ (IsS120.ge HI603.out) | refine below_set ?_ GE599.out | refine below_set ?_ GE600.out) | exact HB.out))) : w.heap.size ≤ gb609)); have n6_ := Aside0.mk ((by rw [hg]; exact (below_size (by repeat (first | (with_reducible first | exact HB.out | apply below_alloc | apply pw_below_drewN | apply below_drew1 | refine below_set ?_ (IsS120.ge HI603.out) | refine below_set ?_ GE599.out | refine below_set ?_ GE600.out) | exact HB.out))) : w.heap.size ≤ gb609)); have n7_ := Aside0.mk ((by rw [hg]; exact Nat.ne_of_lt (blk_lt (g := gb599) (o := .cells #[.int .u64 0, .int .u64 0, .int .u64 0, .int .u64 0] 30 (0, 0)) (by (with_reducible repeat (first | refine blk_drewN ?_ _ | refine blk_drew ?_ | refine blk_alloc ?_ _)); exact BK599.out)) : gb599 ≠ gb609)); have n8_ := Aside0.mk ((by rw [hg]; exact Nat.ne_of_gt (blk_lt (g := gb599) (o := .cells #[.int .u64 0, .int .u64 0, .int .u64 0, .int .u64 0] 30 (0, 0)) (by (with_reducible repeat (first | refine blk_drewN ?_ _ | refine blk_drew ?_ | refine blk_alloc ?_ _)); exact BK599.out)) : gb609 ≠ gb599)); have n9_ := Aside0.mk ((by rw [hg]; exact Nat.ne_of_lt (blk_lt (g := gb600) (o := .cells #[.int .u64 0, .int .u64 0, .int .u64 0, .int .u64 0] 30 (0, 0)) (by (with_reducible repeat (first | refine blk_drewN ?_ _ | refine blk_drew ?_ | refine blk_alloc ?_ _)); exact BK600.out)) : gb600 ≠ gb609)); have n10_ := Aside0.mk ((by rw [hg]; exact Nat.ne_of_gt (blk_lt (g := gb600) (o := .cells #[.int .u64 0, .int .u64 0, .int .u64 0, .int .u64 0] 30 (0, 0)) (by (with_reducible repeat (first | refine blk_drewN ?_ _ | refine blk_drew ?_ | refine blk_alloc ?_ _)); exact BK600.out)) : gb609 ≠ gb600)); have n11_ := Aside0.mk ((by rw [hg]; exact Nat.ne_of_lt (IsS120.lt (show IsS120 w _ g603 t601 t608 from by repeat (first | (with_reducible first | exact HI603.out | apply IsS120.alloc | apply IsS120.drewN | apply IsS120.drew | apply IsS120.set_1 | refine IsS120.far ?_ NB603_599.out _ | refine IsS120.far ?_ NB603_600.out _) | exact HI603.out))) : g603 ≠ gb609)); have n12_ := Aside0.mk ((by rw [hg]; exact Nat.ne_of_gt (IsS120.lt (show IsS120 w _ g603 t601 t608 from by repeat (first | (with_reducible first | exact HI603.out | apply IsS120.alloc | apply IsS120.drewN | apply IsS120.drew | apply IsS120.set_1 | refine IsS120.far ?_ NB603_599.out _ | refine IsS120.far ?_ NB603_600.out _) | exact HI603.out))) : gb609 ≠ g603)); clear BK599; clear BK600; clear HI603; clear HB; have BK599 := n0_; have BK600 := n1_; have HI603 := n2_; have HB := n3_; have BK609 := n4_; have GW609 := n5_; have GE609 := n6_; have NB599_609 := n7_; have NB609_599 := n8_; have NB600_609 := n9_; have NB609_600 := n10_; have NB603_609 := n11_; have NB609_603 := n12_; clear n0_ n1_ n2_ n3_ n4_ n5_ n6_ n7_ n8_ n9_ n10_ n11_ n12_; clear hb hbox hg; have hnb10 := NB609_599.out; have hnc10 := NB599_609.out; have hnb11 := NB609_600.out; have hnc11 := NB600_609.out; have hnb12 := NB609_603.out; have hnc12 := NB603_609.out; have hcz13_0 : w9.cell? ⟨gb609, 0, none⟩ = some (.int .u64 0) := (blk_cell BK609.out 0).trans rfl; have hcz13_1 : w9.cell? ⟨gb609, 1, none⟩ = some (.int .u64 0) := (blk_cell BK609.out 1).trans rfl; have hcz13_2 : w9.cell? ⟨gb609, 2, none⟩ = some (.int .u64 0) := (blk_cell BK609.out 2).trans rfl; have hcz13_3 : w9.cell? ⟨gb609, 3, none⟩ = some (.int .u64 0) := (blk_cell BK609.out 3).trans rfl; have hfz13_0 := blk_frozen BK609.out 0; have hfz13_1 := blk_frozen BK609.out 1; have hfz13_2 := blk_frozen BK609.out 2; have hfz13_3 := blk_frozen BK609.out 3))
  have n0_ : Aside0 (((((w9.setCell ⟨gb609, 0, none⟩ (.int .u64 t604)).setCell ⟨gb609, 1, none⟩ (.int .u64 t605)).setCell ⟨gb609, 2, none⟩ (.int .u64 t606)).setCell ⟨gb609, 3, none⟩ (.int .u64 t607)).heap[gb599]? = some (.cells #[.int .u64 0, .int .u64 0, .int .u64 0, .int .u64 0] 30 (0, 0))) := ⟨by (with_reducible repeat (first | refine blk_drewN ?_ _ | refine blk_drew ?_ | refine blk_alloc ?_ _)); refine blk_far ?_ NB599_609.out _; (with_reducible repeat (first | refine blk_drewN ?_ _ | refine blk_drew ?_ | refine blk_alloc ?_ _)); refine blk_far ?_ NB599_609.out _; (with_reducible repeat (first | refine blk_drewN ?_ _ | refine blk_drew ?_ | refine blk_alloc ?_ _)); refine blk_far ?_ NB599_609.out _; (with_reducible repeat (first | refine blk_drewN ?_ _ | refine blk_drew ?_ | refine blk_alloc ?_ _)); refine blk_far ?_ NB599_609.out _; (with_reducible repeat (first | refine blk_drewN ?_ _ | refine blk_drew ?_ | refine blk_alloc ?_ _)); exact BK599.out⟩
  have n1_ : Aside0 (((((w9.setCell ⟨gb609, 0, none⟩ (.int .u64 t604)).setCell ⟨gb609, 1, none⟩ (.int .u64 t605)).setCell ⟨gb609, 2, none⟩ (.int .u64 t606)).setCell ⟨gb609, 3, none⟩ (.int .u64 t607)).heap[gb600]? = some (.cells #[.int .u64 0, .int .u64 0, .int .u64 0, .int .u64 0] 30 (0, 0))) := ⟨by (with_reducible repeat (first | refine blk_drewN ?_ _ | refine blk_drew ?_ | refine blk_alloc ?_ _)); refine blk_far ?_ NB600_609.out _; (with_reducible repeat (first | refine blk_drewN ?_ _ | refine blk_drew ?_ | refine blk_alloc ?_ _)); refine blk_far ?_ NB600_609.out _; (with_reducible repeat (first | refine blk_drewN ?_ _ | refine blk_drew ?_ | refine blk_alloc ?_ _)); refine blk_far ?_ NB600_609.out _; (with_reducible repeat (first | refine blk_drewN ?_ _ | refine blk_drew ?_ | refine blk_alloc ?_ _)); refine blk_far ?_ NB600_609.out _; (with_reducible repeat (first | refine blk_drewN ?_ _ | refine blk_drew ?_ | refine blk_alloc ?_ _)); exact BK600.out⟩
  have n2_ : Aside0 (((((w9.setCell ⟨gb609, 0, none⟩ (.int .u64 t604)).setCell ⟨gb609, 1, none⟩ (.int .u64 t605)).setCell ⟨gb609, 2, none⟩ (.int .u64 t606)).setCell ⟨gb609, 3, none⟩ (.int .u64 t607)).heap[gb609]? = some (.cells #[.int .u64 t604, .int .u64 t605, .int .u64 t606, .int .u64 t607] 30 (0, 0))) := ⟨by (with_reducible repeat (first | refine blk_drewN ?_ _ | refine blk_drew ?_ | refine blk_alloc ?_ _)); refine blk_put (cs := #[.int .u64 t604, .int .u64 t605, .int .u64 t606, .int .u64 0]) ?_ 3 _ rfl; (with_reducible repeat (first | refine blk_drewN ?_ _ | refine blk_drew ?_ | refine blk_alloc ?_ _)); refine blk_put (cs := #[.int .u64 t604, .int .u64 t605, .int .u64 0, .int .u64 0]) ?_ 2 _ rfl; (with_reducible repeat (first | refine blk_drewN ?_ _ | refine blk_drew ?_ | refine blk_alloc ?_ _)); refine blk_put (cs := #[.int .u64 t604, .int .u64 0, .int .u64 0, .int .u64 0]) ?_ 1 _ rfl; (with_reducible repeat (first | refine blk_drewN ?_ _ | refine blk_drew ?_ | refine blk_alloc ?_ _)); refine blk_put (cs := #[.int .u64 0, .int .u64 0, .int .u64 0, .int .u64 0]) ?_ 0 _ rfl; (with_reducible repeat (first | refine blk_drewN ?_ _ | refine blk_drew ?_ | refine blk_alloc ?_ _)); exact BK609.out⟩
  have n3_ : Aside0 (IsS120 w ((((w9.setCell ⟨gb609, 0, none⟩ (.int .u64 t604)).setCell ⟨gb609, 1, none⟩ (.int .u64 t605)).setCell ⟨gb609, 2, none⟩ (.int .u64 t606)).setCell ⟨gb609, 3, none⟩ (.int .u64 t607)) g603 t601 t608) := ⟨by repeat (first | (with_reducible first | exact HI603.out | apply IsS120.alloc | apply IsS120.drewN | apply IsS120.drew | apply IsS120.set_1 | refine IsS120.far ?_ NB603_599.out _ | refine IsS120.far ?_ NB603_600.out _ | refine IsS120.far ?_ NB603_609.out _) | exact HI603.out)⟩
  have n4_ : Aside0 (Below w.heap.size w ((((w9.setCell ⟨gb609, 0, none⟩ (.int .u64 t604)).setCell ⟨gb609, 1, none⟩ (.int .u64 t605)).setCell ⟨gb609, 2, none⟩ (.int .u64 t606)).setCell ⟨gb609, 3, none⟩ (.int .u64 t607))) := ⟨by repeat (first | (with_reducible first | exact HB.out | apply below_alloc | apply pw_below_drewN | apply below_drew1 | refine below_set ?_ (IsS120.ge HI603.out) | refine below_set ?_ GE599.out | refine below_set ?_ GE600.out | refine below_set ?_ GE609.out) | exact HB.out)⟩
  (try clear BK599)
  (try clear BK600)
  (try clear BK609)
  (try clear HI603)
  (try clear HB)
  generalize ((((w9.setCell ⟨gb609, 0, none⟩ (.int .u64 t604)).setCell ⟨gb609, 1, none⟩ (.int .u64 t605)).setCell ⟨gb609, 2, none⟩ (.int .u64 t606)).setCell ⟨gb609, 3, none⟩ (.int .u64 t607)) = w14 at n0_ n1_ n2_ n3_ n4_ ⊢
  have BK599 := n0_
  have BK600 := n1_
  have BK609 := n2_
  have HI603 := n3_
  have HB := n4_
  clear n0_ n1_ n2_ n3_ n4_
  have n0_ := Aside0.mk (blk_drew BK599.out)
  have n1_ := Aside0.mk (blk_drew BK600.out)
  have n2_ := Aside0.mk (blk_drew BK609.out)
  have n3_ := Aside0.mk (IsS120.drew HI603.out)
  have n4_ := Aside0.mk (below_drew1 HB.out)
  clear BK599
  clear BK600
  clear BK609
  clear HI603
  clear HB
  have BK599 := n0_
  have BK600 := n1_
  have BK609 := n2_
  have HI603 := n3_
  have HB := n4_
  clear n0_ n1_ n2_ n3_ n4_
  refine start_ (n := 5) (S := fun w' => w'.cell? ⟨gb609, 0, none⟩ = some (.int .u64 t604) ∧ w'.cell? ⟨gb609, 1, none⟩ = some (.int .u64 t605) ∧ w'.cell? ⟨gb609, 2, none⟩ = some (.int .u64 t606) ∧ w'.cell? ⟨gb609, 3, none⟩ = some (.int .u64 t607)) (ds := []) #[false, false, false, false, false] (by kernel_rfl) rfl rfl ⟨(blk_cell BK609.out 0).trans rfl, (blk_cell BK609.out 1).trans rfl, (blk_cell BK609.out 2).trans rfl, (blk_cell BK609.out 3).trans rfl⟩ (fun hHeld => ?_)
  generalize w14.drew = w15 at BK599 BK600 BK609 HI603 HB hHeld ⊢
  refine pure_ (i := 1) (N := some 11) (v := ?_) (a' := ?_) #[false, true, false, false, false] rfl rfl (by kernel_rfl) (fun _ _ _ h => h) (Or.inl ⟨by rfl, ?_⟩) ?_ ?_
  rotate_left
  · intro w'
    go_simp
    with_reducible rfl
  rotate_left
  · simp only [Act.put, List.setIfInBounds_toArray, List.set_cons_zero, List.set_cons_succ, i64_w, i32_w]
    rfl
  refine take_ (i := 0) (N := some 10) (v := ?_) (a' := ?_) #[true, true, false, false, false] rfl rfl (by kernel_rfl) (fun _ _ _ h => h) (Or.inl ⟨by rfl, ?_⟩) hHeld ?_ ?_
  rotate_left
  · rintro w' ⟨s0, s1, s2, s3⟩
    go_simp
    with_reducible rfl
  rotate_left
  · simp only [Act.put, List.setIfInBounds_toArray, List.set_cons_zero, List.set_cons_succ, i64_w, i32_w]
    rfl
  refine one_ (i := 2) (N := some 12) #[true, true, true, false, false] rfl rfl (by kernel_rfl) (by decide) (fun K hK => ?_)
  refine goes_ Try.func104 (by kernel_rfl) rfl #[.pointer (some ⟨g603, 0, none⟩)] (by rfl) rfl rfl (by (try simp only [List.map_toArray, List.map_cons, List.map_nil]); first | done | rfl | (simp only [List.length_drop, List.length_take]; rfl)) ?_
  with_reducible refine (spec_l1Rd_digest.calls k g603 t601 t608 t610 t611 t612 t613 t614 w _ ?side1 ?side2 A4.out).mono ?_
  (case side1 => repeat (first | (with_reducible first | exact HI603.out | apply IsS120.alloc | apply IsS120.drewN | apply IsS120.drew | apply IsS120.set_1 | refine IsS120.far ?_ NB603_599.out _ | refine IsS120.far ?_ NB603_600.out _ | refine IsS120.far ?_ NB603_609.out _) | exact HI603.out))
  (case side2 => repeat (first | (with_reducible first | exact HB.out | apply below_alloc | apply pw_below_drewN | apply below_drew1 | refine below_set ?_ (IsS120.ge HI603.out) | refine below_set ?_ GE599.out | refine below_set ?_ GE600.out | refine below_set ?_ GE609.out) | exact HB.out))
  rintro e w16 ⟨rfl, hi, hb, hk⟩
  refine ⟨_, rfl, ?_⟩
  have n0_ := Aside0.mk (KeepBut.blk hk (g' := gb599) (o := .cells #[.int .u64 0, .int .u64 0, .int .u64 0, .int .u64 0] 30 (0, 0)) (by (with_reducible repeat (first | refine blk_drewN ?_ _ | refine blk_drew ?_ | refine blk_alloc ?_ _)); exact BK599.out) NB599_603.out (by simp))
  have n1_ := Aside0.mk (KeepBut.blk hk (g' := gb600) (o := .cells #[.int .u64 0, .int .u64 0, .int .u64 0, .int .u64 0] 30 (0, 0)) (by (with_reducible repeat (first | refine blk_drewN ?_ _ | refine blk_drew ?_ | refine blk_alloc ?_ _)); exact BK600.out) NB600_603.out (by simp))
  have n2_ := Aside0.mk (KeepBut.blk hk (g' := gb609) (o := .cells #[.int .u64 t604, .int .u64 t605, .int .u64 t606, .int .u64 t607] 30 (0, 0)) (by (with_reducible repeat (first | refine blk_drewN ?_ _ | refine blk_drew ?_ | refine blk_alloc ?_ _)); exact BK609.out) NB609_603.out (by simp))
  have n3_ := Aside0.mk (hb)
  have n4_ := Aside0.mk (hi)
  clear BK599
  clear BK600
  clear BK609
  clear HB
  clear HI603
  have BK599 := n0_
  have BK600 := n1_
  have BK609 := n2_
  have HB := n3_
  have HI603 := n4_
  clear n0_ n1_ n2_ n3_ n4_
  (try clear hb)
  (try clear hb2)
  (try clear hk)
  (try clear hi)
  refine hK.out _ _ ⟨(blk_cell BK609.out 0).trans rfl, (blk_cell BK609.out 1).trans rfl, (blk_cell BK609.out 2).trans rfl, (blk_cell BK609.out 3).trans rfl⟩ (fun hHeld => ?_)
  clear hK K
  refine norm_ (a' := ?_) ?_ ?_
  rotate_left
  · show Act.put _ (some 12) _ = _
    simp only [Act.put, List.setIfInBounds_toArray, List.set_cons_zero, List.set_cons_succ, i64_w, i32_w]
    rfl
  refine one_ (i := 3) (N := none) #[true, true, true, true, false] rfl rfl (by kernel_rfl) (by decide) (fun K hK => ?_)
  have hs17 : w16.cell? ⟨gb599, 0, none⟩ = some (.int .u64 0) := (blk_cell BK599.out 0).trans rfl
  have hfs17 := blk_frozen BK599.out 0
  have hns17_1 := NB600_599.out
  have hns17_2 := NB609_599.out
  have hms17_1 := NB599_600.out
  have hms17_2 := NB599_609.out
  have hs18 : w16.cell? ⟨gb599, 1, none⟩ = some (.int .u64 0) := (blk_cell BK599.out 1).trans rfl
  have hfs18 := blk_frozen BK599.out 1
  have hns18_1 := NB600_599.out
  have hns18_2 := NB609_599.out
  have hms18_1 := NB599_600.out
  have hms18_2 := NB599_609.out
  have hs19 : w16.cell? ⟨gb599, 2, none⟩ = some (.int .u64 0) := (blk_cell BK599.out 2).trans rfl
  have hfs19 := blk_frozen BK599.out 2
  have hns19_1 := NB600_599.out
  have hns19_2 := NB609_599.out
  have hms19_1 := NB599_600.out
  have hms19_2 := NB599_609.out
  have hs20 : w16.cell? ⟨gb599, 3, none⟩ = some (.int .u64 0) := (blk_cell BK599.out 3).trans rfl
  have hfs20 := blk_frozen BK599.out 3
  have hns20_1 := NB600_599.out
  have hns20_2 := NB609_599.out
  have hms20_1 := NB599_600.out
  have hms20_2 := NB599_609.out
  refine skip_ (w1 := ?_) (by rfl) rfl ?_ ?_
  rotate_left
  · go_simp
    rfl
  refine hK.out _ _ ⟨((cell_far (p := ⟨gb599, _, none⟩) NB609_599.out _).trans (((cell_far (p := ⟨gb599, _, none⟩) NB609_599.out _).trans (((cell_far (p := ⟨gb599, _, none⟩) NB609_599.out _).trans (((cell_far (p := ⟨gb599, _, none⟩) NB609_599.out _).trans (hHeld.1)))))))), ((cell_far (p := ⟨gb599, _, none⟩) NB609_599.out _).trans (((cell_far (p := ⟨gb599, _, none⟩) NB609_599.out _).trans (((cell_far (p := ⟨gb599, _, none⟩) NB609_599.out _).trans (((cell_far (p := ⟨gb599, _, none⟩) NB609_599.out _).trans (hHeld.2.1)))))))), ((cell_far (p := ⟨gb599, _, none⟩) NB609_599.out _).trans (((cell_far (p := ⟨gb599, _, none⟩) NB609_599.out _).trans (((cell_far (p := ⟨gb599, _, none⟩) NB609_599.out _).trans (((cell_far (p := ⟨gb599, _, none⟩) NB609_599.out _).trans (hHeld.2.2.1)))))))), ((cell_far (p := ⟨gb599, _, none⟩) NB609_599.out _).trans (((cell_far (p := ⟨gb599, _, none⟩) NB609_599.out _).trans (((cell_far (p := ⟨gb599, _, none⟩) NB609_599.out _).trans (((cell_far (p := ⟨gb599, _, none⟩) NB609_599.out _).trans (hHeld.2.2.2))))))))⟩ (fun hHeld => ?_)
  clear hK K
  refine one_ (i := 4) (N := none) #[true, true, true, true, true] rfl rfl (by kernel_rfl) (by decide) (fun K hK => ?_)
  have hs21 : w16.cell? ⟨gb600, 0, none⟩ = some (.int .u64 0) := (blk_cell BK600.out 0).trans rfl
  have hfs21 := blk_frozen BK600.out 0
  have hns21_0 := NB599_600.out
  have hns21_2 := NB609_600.out
  have hms21_0 := NB600_599.out
  have hms21_2 := NB600_609.out
  have hs22 : w16.cell? ⟨gb600, 1, none⟩ = some (.int .u64 0) := (blk_cell BK600.out 1).trans rfl
  have hfs22 := blk_frozen BK600.out 1
  have hns22_0 := NB599_600.out
  have hns22_2 := NB609_600.out
  have hms22_0 := NB600_599.out
  have hms22_2 := NB600_609.out
  have hs23 : w16.cell? ⟨gb600, 2, none⟩ = some (.int .u64 0) := (blk_cell BK600.out 2).trans rfl
  have hfs23 := blk_frozen BK600.out 2
  have hns23_0 := NB599_600.out
  have hns23_2 := NB609_600.out
  have hms23_0 := NB600_599.out
  have hms23_2 := NB600_609.out
  have hs24 : w16.cell? ⟨gb600, 3, none⟩ = some (.int .u64 0) := (blk_cell BK600.out 3).trans rfl
  have hfs24 := blk_frozen BK600.out 3
  have hns24_0 := NB599_600.out
  have hns24_2 := NB609_600.out
  have hms24_0 := NB600_599.out
  have hms24_2 := NB600_609.out
  refine skip_ (w1 := ?_) (by rfl) rfl ?_ ?_
  rotate_left
  · go_simp
    rfl
  refine hK.out _ _ ⟨((cell_far (p := ⟨gb600, _, none⟩) NB609_600.out _).trans (((cell_far (p := ⟨gb600, _, none⟩) NB609_600.out _).trans (((cell_far (p := ⟨gb600, _, none⟩) NB609_600.out _).trans (((cell_far (p := ⟨gb600, _, none⟩) NB609_600.out _).trans (hHeld.1)))))))), ((cell_far (p := ⟨gb600, _, none⟩) NB609_600.out _).trans (((cell_far (p := ⟨gb600, _, none⟩) NB609_600.out _).trans (((cell_far (p := ⟨gb600, _, none⟩) NB609_600.out _).trans (((cell_far (p := ⟨gb600, _, none⟩) NB609_600.out _).trans (hHeld.2.1)))))))), ((cell_far (p := ⟨gb600, _, none⟩) NB609_600.out _).trans (((cell_far (p := ⟨gb600, _, none⟩) NB609_600.out _).trans (((cell_far (p := ⟨gb600, _, none⟩) NB609_600.out _).trans (((cell_far (p := ⟨gb600, _, none⟩) NB609_600.out _).trans (hHeld.2.2.1)))))))), ((cell_far (p := ⟨gb600, _, none⟩) NB609_600.out _).trans (((cell_far (p := ⟨gb600, _, none⟩) NB609_600.out _).trans (((cell_far (p := ⟨gb600, _, none⟩) NB609_600.out _).trans (((cell_far (p := ⟨gb600, _, none⟩) NB609_600.out _).trans (hHeld.2.2.2))))))))⟩ (fun hHeld => ?_)
  clear hK K
  refine done_ (by kernel_rfl) ?_
  try go_wp2
  refine bodyPost_ret (results_cc rfl _ _ gb599 gb600 30 30 #[.int .u64 t604, .int .u64 t605, .int .u64 t606, .int .u64 t607] #[.int .u64 t610, .int .u64 t611, .int .u64 t612, .int .u64 t613] (0, 0) (0, 0) _ _ rfl (by (with_reducible repeat (first | refine blk_drewN ?_ _ | refine blk_drew ?_ | refine blk_alloc ?_ _)); refine blk_far ?_ NB599_600.out _; (with_reducible repeat (first | refine blk_drewN ?_ _ | refine blk_drew ?_ | refine blk_alloc ?_ _)); refine blk_far ?_ NB599_600.out _; (with_reducible repeat (first | refine blk_drewN ?_ _ | refine blk_drew ?_ | refine blk_alloc ?_ _)); refine blk_far ?_ NB599_600.out _; (with_reducible repeat (first | refine blk_drewN ?_ _ | refine blk_drew ?_ | refine blk_alloc ?_ _)); refine blk_far ?_ NB599_600.out _; (with_reducible repeat (first | refine blk_drewN ?_ _ | refine blk_drew ?_ | refine blk_alloc ?_ _)); refine blk_put (cs := #[.int .u64 t604, .int .u64 t605, .int .u64 t606, .int .u64 0]) ?_ 3 _ rfl; (with_reducible repeat (first | refine blk_drewN ?_ _ | refine blk_drew ?_ | refine blk_alloc ?_ _)); refine blk_put (cs := #[.int .u64 t604, .int .u64 t605, .int .u64 0, .int .u64 0]) ?_ 2 _ rfl; (with_reducible repeat (first | refine blk_drewN ?_ _ | refine blk_drew ?_ | refine blk_alloc ?_ _)); refine blk_put (cs := #[.int .u64 t604, .int .u64 0, .int .u64 0, .int .u64 0]) ?_ 1 _ rfl; (with_reducible repeat (first | refine blk_drewN ?_ _ | refine blk_drew ?_ | refine blk_alloc ?_ _)); refine blk_put (cs := #[.int .u64 0, .int .u64 0, .int .u64 0, .int .u64 0]) ?_ 0 _ rfl; (with_reducible repeat (first | refine blk_drewN ?_ _ | refine blk_drew ?_ | refine blk_alloc ?_ _)); exact BK599.out) Try.underlying30 rfl (by kernel_rfl) rfl (by (with_reducible repeat (first | refine blk_drewN ?_ _ | refine blk_drew ?_ | refine blk_alloc ?_ _)); refine blk_put (cs := #[.int .u64 t610, .int .u64 t611, .int .u64 t612, .int .u64 0]) ?_ 3 _ rfl; (with_reducible repeat (first | refine blk_drewN ?_ _ | refine blk_drew ?_ | refine blk_alloc ?_ _)); refine blk_put (cs := #[.int .u64 t610, .int .u64 t611, .int .u64 0, .int .u64 0]) ?_ 2 _ rfl; (with_reducible repeat (first | refine blk_drewN ?_ _ | refine blk_drew ?_ | refine blk_alloc ?_ _)); refine blk_put (cs := #[.int .u64 t610, .int .u64 0, .int .u64 0, .int .u64 0]) ?_ 1 _ rfl; (with_reducible repeat (first | refine blk_drewN ?_ _ | refine blk_drew ?_ | refine blk_alloc ?_ _)); refine blk_put (cs := #[.int .u64 0, .int .u64 0, .int .u64 0, .int .u64 0]) ?_ 0 _ rfl; (with_reducible repeat (first | refine blk_drewN ?_ _ | refine blk_drew ?_ | refine blk_alloc ?_ _)); refine blk_far ?_ NB600_599.out _; (with_reducible repeat (first | refine blk_drewN ?_ _ | refine blk_drew ?_ | refine blk_alloc ?_ _)); refine blk_far ?_ NB600_599.out _; (with_reducible repeat (first | refine blk_drewN ?_ _ | refine blk_drew ?_ | refine blk_alloc ?_ _)); refine blk_far ?_ NB600_599.out _; (with_reducible repeat (first | refine blk_drewN ?_ _ | refine blk_drew ?_ | refine blk_alloc ?_ _)); refine blk_far ?_ NB600_599.out _; (with_reducible repeat (first | refine blk_drewN ?_ _ | refine blk_drew ?_ | refine blk_alloc ?_ _)); exact BK600.out) Try.underlying30 rfl (by kernel_rfl)) rfl ?_
  exact ⟨by first | rfl | (simp [errW_none, errW_some] <;> rfl) | (simp [*, errW_none, errW_some] <;> rfl), by repeat (first | (with_reducible first | exact HB.out | apply below_alloc | apply pw_below_drewN | apply below_drew1 | refine below_set ?_ (IsS120.ge HI603.out) | refine below_set ?_ GE599.out | refine below_set ?_ GE600.out | refine below_set ?_ GE609.out) | exact HB.out)⟩

end Go.Proofs.Ytfbhlofifodkjaa.B
