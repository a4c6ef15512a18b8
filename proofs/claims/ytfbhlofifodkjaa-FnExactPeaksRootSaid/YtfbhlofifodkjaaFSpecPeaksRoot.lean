/- What the Go function loop.example/belfry/spec.PeaksRoot does is what the Lean function .f of its name here says; condition: .f gives an answer. (Written by the session's program pp.py over the kit's print; Lean checks it.) -/
import Derived.Test.YtfbhlofifodkjaaK
import Derived.Test.YtfbhlofifodkjaaFSpecHashOf
import Derived.Test.YtfbhlofifodkjaaFSpecHashPair
namespace Go.Proofs.Ytfbhlofifodkjaa.B
open Go.RowKit Go.Proofs.YtfbhlofifodkjaaW.PrintWords Go.Proofs.YtfbhlofifodkjaaW.PrintLast Go.Proofs.YtfbhlofifodkjaaW.PrintMore
attribute [local go_sem] max2_int min2_int max_two min_two max_three min_three max_four min_four   -- for this text's walks alone
set_option linter.unusedVariables false
set_option linter.unusedSimpArgs false

/-! ### spec_PeaksRoot: function 69 -/
def spec_PeaksRoot.l0 : Nat → List (S30) → Int → Int → Int → Int → Int → Option (Int × Int × Int × Int)
  | 0, _, _, _, _, _, _ => none
  | k + 1, x0, x4, x770000, x770001, x770002, x770003 => if x4 ≥ 0 then (if 0 ≤ x4 then (if x4 < (x0.length : Int) then ((spec_HashPair.f k ((rd_T30 x0 x4).f0) ((rd_T30 x0 x4).f1) ((rd_T30 x0 x4).f2) ((rd_T30 x0 x4).f3) x770000 x770001 x770002 x770003).bind fun bt771 => (spec_PeaksRoot.l0 k x0 (wrap64 (x4 - 1)) bt771.1 bt771.2.1 bt771.2.2.1 bt771.2.2.2)) else (none)) else (none)) else (some (x770000, x770001, x770002, x770003))
def spec_PeaksRoot.f (k : Nat) (l0 : List (S30)) : Option (Int × Int × Int × Int) := if (l0.length : Int) > 8 then (some (0, 0, 0, 0)) else (if (l0.length : Int) = 0 then ((spec_HashOf.f k (⟨#[]⟩ : ByteArray)).bind fun bt764 => (some (bt764.1, bt764.2.1, bt764.2.2.1, bt764.2.2.2))) else (if 0 ≤ (wrap64 ((l0.length : Int) - 1)) then (if (wrap64 ((l0.length : Int) - 1)) < (l0.length : Int) then (spec_PeaksRoot.l0 k l0 (wrap64 ((l0.length : Int) - 2)) ((rd_T30 l0 (wrap64 ((l0.length : Int) - 1))).f0) ((rd_T30 l0 (wrap64 ((l0.length : Int) - 1))).f1) ((rd_T30 l0 (wrap64 ((l0.length : Int) - 1))).f2) ((rd_T30 l0 (wrap64 ((l0.length : Int) - 1))).f3)) else (none)) else (none)))
theorem spec_PeaksRoot.mono_l : ∀ k, (∀ y0 y1 y2 y3 y4 y5, LeO (spec_PeaksRoot.l0 k y0 y1 y2 y3 y4 y5) (spec_PeaksRoot.l0 (k + 1) y0 y1 y2 y3 y4 y5))
  | 0 => fun _ _ _ _ _ _ r h => by simp [spec_PeaksRoot.l0] at h
  | k + 1 => by
    have ih0 := spec_PeaksRoot.mono_l k
    · intro y0 y1 y2 y3 y4 y5
      unfold spec_PeaksRoot.l0
      repeat' first
      | (with_reducible exact ih0 _ _ _ _ _ _)
      | (with_reducible exact spec_HashOf.mono _ _)
      | (with_reducible exact spec_HashPair.mono _ _ _ _ _ _ _ _ _)
      | (with_reducible exact LeO.refl _)
      | (with_reducible exact LeO.none _)
      | (with_reducible refine LeO.ite ?_ ?_)
      | (with_reducible refine LeO.bind ?_ (fun _ => ?_))
      | exact ih0 _ _ _ _ _ _
      | exact spec_HashOf.mono _ _
      | exact spec_HashPair.mono _ _ _ _ _ _ _ _ _
      | exact LeO.none _
      | refine LeO.ite ?_ ?_
      | refine LeO.bind ?_ (fun _ => ?_)
theorem spec_PeaksRoot.mono : ∀ a0 k, LeO (spec_PeaksRoot.f k a0) (spec_PeaksRoot.f (k + 1) a0) := by
  intro a0 k
  have ih0 := spec_PeaksRoot.mono_l k
  unfold spec_PeaksRoot.f
  repeat' first
      | (with_reducible exact ih0 _ _ _ _ _ _)
      | (with_reducible exact spec_HashOf.mono _ _)
      | (with_reducible exact spec_HashPair.mono _ _ _ _ _ _ _ _ _)
      | (with_reducible exact LeO.refl _)
      | (with_reducible exact LeO.none _)
      | (with_reducible refine LeO.ite ?_ ?_)
      | (with_reducible refine LeO.bind ?_ (fun _ => ?_))
      | exact ih0 _ _ _ _ _ _
      | exact spec_HashOf.mono _ _
      | exact spec_HashPair.mono _ _ _ _ _ _ _ _ _
      | exact LeO.none _
      | refine LeO.ite ?_ ?_
      | refine LeO.bind ?_ (fun _ => ?_)
set_option maxHeartbeats 8000000 in
set_option maxRecDepth 100000 in
theorem spec_PeaksRoot.calls (k : Nat) (A0 : Option Addr) (c0 : Nat) (l0 : List (S30)) (r1 : Int) (r2 : Int) (r3 : Int) (r4 : Int) (w : World) (hr0 : Kd.C k30 w A0 l0.length l0) (hc0 : l0.length ≤ c0) (h : spec_PeaksRoot.f k l0 = some (r1, r2, r3, r4)) :
    Calls Try.prog 69 #[.slice A0 l0.length c0] w fun e w' => e = .returned (.agg #[.int .u64 r1, .int .u64 r2, .int .u64 r3, .int .u64 r4]) ∧ Below w.heap.size w w' := by
  have hu30 := Try.underlying30
  have HR0 := Aside0.mk hr0
  have HC0 := Aside0.mk hc0
  clear hr0 hc0
  have HB := Aside0.mk (Below.refl w.heap.size w)
  have H : (if (l0.length : Int) > 8 then (some (0, 0, 0, 0)) else (if (l0.length : Int) = 0 then ((spec_HashOf.f k (⟨#[]⟩ : ByteArray)).bind fun bt764 => (some (bt764.1, bt764.2.1, bt764.2.2.1, bt764.2.2.2))) else (if 0 ≤ (wrap64 ((l0.length : Int) - 1)) then (if (wrap64 ((l0.length : Int) - 1)) < (l0.length : Int) then (spec_PeaksRoot.l0 k l0 (wrap64 ((l0.length : Int) - 2)) ((rd_T30 l0 (wrap64 ((l0.length : Int) - 1))).f0) ((rd_T30 l0 (wrap64 ((l0.length : Int) - 1))).f1) ((rd_T30 l0 (wrap64 ((l0.length : Int) - 1))).f2) ((rd_T30 l0 (wrap64 ((l0.length : Int) - 1))).f3)) else (none)) else (none)))) = some (r1, r2, r3, r4) := h
  clear h
  by_cases c2 : (l0.length : Int) > 8
  · rw [if_pos c2] at H
    have c2b0 : decide (8 < (l0.length : Int)) = true := decide_eq_true c2
    have c2b1 : decide (8 < l0.length) = true := decide_eq_true (by omega)
    clear c2
    simp only [Option.some.injEq, Prod.mk.injEq] at H
    obtain ⟨rfl, rfl, rfl, rfl⟩ := H
    go_enter Try.func69, Try.ntmps69
    go_wp2_with (first | ((with_reducible refine gate_dst (N := 2) rfl ?_); refine box_event ?hg (N := 2) ?hd (cs := #[.int .u64 0, .int .u64 0, .int .u64 0, .int .u64 0]) (t := 30) ?hr ?_; (case hd => rfl); (case hg => rfl); (case hr => first | (go_simp; done) | (go_simp; rfl)); intro gb763 hg w3 hbox hb; have n0_ := Aside0.mk (below_step (by repeat (first | (with_reducible first | exact HB.out | apply below_alloc | apply pw_below_drewN | apply below_drew1) | exact HB.out)) hb); have n1_ := Aside0.mk (hbox); have n2_ := Aside0.mk ((by rw [hg]; exact (below_size (by repeat (first | (with_reducible first | exact HB.out | apply below_alloc | apply pw_below_drewN | apply below_drew1) | exact HB.out))) : w.heap.size ≤ gb763)); have n3_ := Aside0.mk ((by rw [hg]; exact (below_size (by repeat (first | (with_reducible first | exact HB.out | apply below_alloc | apply pw_below_drewN | apply below_drew1) | exact HB.out))) : w.heap.size ≤ gb763)); clear HB; have HB := n0_; have BK763 := n1_; have GW763 := n2_; have GE763 := n3_; clear n0_ n1_ n2_ n3_; clear hb hbox hg; have hcz4_0 : w3.cell? ⟨gb763, 0, none⟩ = some (.int .u64 0) := (blk_cell BK763.out 0).trans rfl; have hcz4_1 : w3.cell? ⟨gb763, 1, none⟩ = some (.int .u64 0) := (blk_cell BK763.out 1).trans rfl; have hcz4_2 : w3.cell? ⟨gb763, 2, none⟩ = some (.int .u64 0) := (blk_cell BK763.out 2).trans rfl; have hcz4_3 : w3.cell? ⟨gb763, 3, none⟩ = some (.int .u64 0) := (blk_cell BK763.out 3).trans rfl; have hfz4_0 := blk_frozen BK763.out 0; have hfz4_1 := blk_frozen BK763.out 1; have hfz4_2 := blk_frozen BK763.out 2; have hfz4_3 := blk_frozen BK763.out 3))
    refine bodyPost_ret (results_cell_row rfl _ _ gb763 30 #[.int .u64 0, .int .u64 0, .int .u64 0, .int .u64 0] (0, 0) _ rfl (by (with_reducible repeat (first | refine blk_drewN ?_ _ | refine blk_drew ?_ | refine blk_alloc ?_ _)); refine blk_put (cs := #[.int .u64 0, .int .u64 0, .int .u64 0, .int .u64 0]) ?_ 3 _ rfl; (with_reducible repeat (first | refine blk_drewN ?_ _ | refine blk_drew ?_ | refine blk_alloc ?_ _)); refine blk_put (cs := #[.int .u64 0, .int .u64 0, .int .u64 0, .int .u64 0]) ?_ 2 _ rfl; (with_reducible repeat (first | refine blk_drewN ?_ _ | refine blk_drew ?_ | refine blk_alloc ?_ _)); refine blk_put (cs := #[.int .u64 0, .int .u64 0, .int .u64 0, .int .u64 0]) ?_ 1 _ rfl; (with_reducible repeat (first | refine blk_drewN ?_ _ | refine blk_drew ?_ | refine blk_alloc ?_ _)); refine blk_put (cs := #[.int .u64 0, .int .u64 0, .int .u64 0, .int .u64 0]) ?_ 0 _ rfl; (with_reducible repeat (first | refine blk_drewN ?_ _ | refine blk_drew ?_ | refine blk_alloc ?_ _)); exact BK763.out) Try.underlying30 rfl (by kernel_rfl)) rfl ?_
    exact ⟨by first | rfl | (simp [errW_none, errW_some] <;> rfl) | (simp [*, errW_none, errW_some] <;> rfl), by repeat (first | (with_reducible first | exact HB.out | apply below_alloc | apply pw_below_drewN | apply below_drew1 | refine below_set ?_ GE763.out) | exact HB.out)⟩
  · rw [if_neg c2] at H
    have c2b0 : decide (8 < (l0.length : Int)) = false := decide_eq_false c2
    have c2b1 : decide (8 < l0.length) = false := decide_eq_false (by omega)
    clear c2
    by_cases c5 : (l0.length : Int) = 0
    · rw [if_pos c5] at H
      have c5b0 : ((l0.length : Int) == 0) = true := beq_iff_eq.mpr c5
      have c5b1 : ((l0.length : Int) != 0) = false := bne_eq_false_iff_eq.mpr c5
      clear c5
      replace H := Option.bind_eq_some_iff.mp H
      obtain ⟨⟨t764, t765, t766, t767⟩, A60, H⟩ := H
      replace H : (some (t764, t765, t766, t767)) = some (r1, r2, r3, r4) := H
      have A6 := Aside0.mk A60
      clear A60
      simp only [Option.some.injEq, Prod.mk.injEq] at H
      obtain ⟨rfl, rfl, rfl, rfl⟩ := H
      go_enter Try.func69, Try.ntmps69
      go_wp2_with (first | ((with_reducible refine gate_dst (N := 2) rfl ?_); refine box_event ?hg (N := 2) ?hd (cs := #[.int .u64 0, .int .u64 0, .int .u64 0, .int .u64 0]) (t := 30) ?hr ?_; (case hd => rfl); (case hg => rfl); (case hr => first | (go_simp; done) | (go_simp; rfl)); intro gb763 hg w7 hbox hb; have n0_ := Aside0.mk (below_step (by repeat (first | (with_reducible first | exact HB.out | apply below_alloc | apply pw_below_drewN | apply below_drew1) | exact HB.out)) hb); have n1_ := Aside0.mk (hbox); have n2_ := Aside0.mk ((by rw [hg]; exact (below_size (by repeat (first | (with_reducible first | exact HB.out | apply below_alloc | apply pw_below_drewN | apply below_drew1) | exact HB.out))) : w.heap.size ≤ gb763)); have n3_ := Aside0.mk ((by rw [hg]; exact (below_size (by repeat (first | (with_reducible first | exact HB.out | apply below_alloc | apply pw_below_drewN | apply below_drew1) | exact HB.out))) : w.heap.size ≤ gb763)); clear HB; have HB := n0_; have BK763 := n1_; have GW763 := n2_; have GE763 := n3_; clear n0_ n1_ n2_ n3_; clear hb hbox hg) | ((with_reducible refine gate_callee (f := 52) rfl ?_); refine goesL_ (some 12) rfl rfl Try.func52 (by kernel_rfl) rfl #[.string (⟨#[]⟩ : ByteArray)] rfl (by (try simp only [List.map_toArray, List.map_cons, List.map_nil]); first | done | rfl | (simp only [List.length_drop, List.length_take]; rfl)) ?_; (with_reducible refine (spec_HashOf.calls k (⟨#[]⟩ : ByteArray) t764 t765 t766 t767 _ A6.out).mono ?_); rintro e w8 ⟨rfl, hb⟩; refine ⟨_, rfl, ?_⟩; have n0_ := Aside0.mk (blk_below (g := gb763) (o := .cells #[.int .u64 0, .int .u64 0, .int .u64 0, .int .u64 0] 30 (0, 0)) (by (with_reducible repeat (first | refine blk_drewN ?_ _ | refine blk_drew ?_ | refine blk_alloc ?_ _)); exact BK763.out) hb); have n1_ := Aside0.mk (below_step (by repeat (first | (with_reducible first | exact HB.out | apply below_alloc | apply pw_below_drewN | apply below_drew1 | refine below_set ?_ GE763.out) | exact HB.out)) hb); clear BK763; clear HB; have BK763 := n0_; have HB := n1_; clear n0_ n1_; (try clear hb); (try clear hb2); (try clear hk); (try clear hi); have hcz9_0 : w8.cell? ⟨gb763, 0, none⟩ = some (.int .u64 0) := (blk_cell BK763.out 0).trans rfl; have hcz9_1 : w8.cell? ⟨gb763, 1, none⟩ = some (.int .u64 0) := (blk_cell BK763.out 1).trans rfl; have hcz9_2 : w8.cell? ⟨gb763, 2, none⟩ = some (.int .u64 0) := (blk_cell BK763.out 2).trans rfl; have hcz9_3 : w8.cell? ⟨gb763, 3, none⟩ = some (.int .u64 0) := (blk_cell BK763.out 3).trans rfl; have hfz9_0 := blk_frozen BK763.out 0; have hfz9_1 := blk_frozen BK763.out 1; have hfz9_2 := blk_frozen BK763.out 2; have hfz9_3 := blk_frozen BK763.out 3))
      refine bodyPost_ret (results_cell_row rfl _ _ gb763 30 #[.int .u64 t764, .int .u64 t765, .int .u64 t766, .int .u64 t767] (0, 0) _ rfl (by (with_reducible repeat (first | refine blk_drewN ?_ _ | refine blk_drew ?_ | refine blk_alloc ?_ _)); refine blk_put (cs := #[.int .u64 t764, .int .u64 t765, .int .u64 t766, .int .u64 0]) ?_ 3 _ rfl; (with_reducible repeat (first | refine blk_drewN ?_ _ | refine blk_drew ?_ | refine blk_alloc ?_ _)); refine blk_put (cs := #[.int .u64 t764, .int .u64 t765, .int .u64 0, .int .u64 0]) ?_ 2 _ rfl; (with_reducible repeat (first | refine blk_drewN ?_ _ | refine blk_drew ?_ | refine blk_alloc ?_ _)); refine blk_put (cs := #[.int .u64 t764, .int .u64 0, .int .u64 0, .int .u64 0]) ?_ 1 _ rfl; (with_reducible repeat (first | refine blk_drewN ?_ _ | refine blk_drew ?_ | refine blk_alloc ?_ _)); refine blk_put (cs := #[.int .u64 0, .int .u64 0, .int .u64 0, .int .u64 0]) ?_ 0 _ rfl; (with_reducible repeat (first | refine blk_drewN ?_ _ | refine blk_drew ?_ | refine blk_alloc ?_ _)); exact BK763.out) Try.underlying30 rfl (by kernel_rfl)) rfl ?_
      exact ⟨by first | rfl | (simp [errW_none, errW_some] <;> rfl) | (simp [*, errW_none, errW_some] <;> rfl), by repeat (first | (with_reducible first | exact HB.out | apply below_alloc | apply pw_below_drewN | apply below_drew1 | refine below_set ?_ GE763.out) | exact HB.out)⟩
    · rw [if_neg c5] at H
      have c5b0 : ((l0.length : Int) == 0) = false := beq_eq_false_iff_ne.mpr c5
      have c5b1 : ((l0.length : Int) != 0) = true := bne_iff_ne.mpr c5
      have c5b2 : ¬ (l0 = []) := fun h_ => c5 (by rw [h_]; rfl)
      obtain ⟨ji10, hji10⟩ : ∃ j_ : Int, (wrap64 ((l0.length : Int) - 1)) = j_ := ⟨_, rfl⟩
      replace H : (if 0 ≤ (ji10) then (if (ji10) < (l0.length : Int) then (spec_PeaksRoot.l0 k l0 (wrap64 ((l0.length : Int) - 2)) ((rd_T30 l0 (ji10)).f0) ((rd_T30 l0 (ji10)).f1) ((rd_T30 l0 (ji10)).f2) ((rd_T30 l0 (ji10)).f3)) else (none)) else (none)) = some (r1, r2, r3, r4) := by first | (rw [hji10] at H; exact H) | (simp only [hji10] at H ⊢; exact H)
      have hji10w : (IntKind.i64.wrap ((l0.length : Int) - 1)) = ji10 := (i64_w _).trans hji10
      by_cases c11 : 0 ≤ (ji10)
      · rw [if_pos c11] at H
        have c11b0 : decide (0 ≤ (ji10)) = true := decide_eq_true c11
        clear c11
        by_cases c12 : (ji10) < (l0.length : Int)
        · rw [if_pos c12] at H
          have c12b0 : decide ((ji10) < (l0.length : Int)) = true := decide_eq_true c12
          clear c12
          have H' := Aside0.mk H
          clear H
          go_enter Try.func69, Try.ntmps69
          go_wp2_with (first | ((with_reducible refine gate_dst (N := 2) rfl ?_); refine box_event ?hg (N := 2) ?hd (cs := #[.int .u64 0, .int .u64 0, .int .u64 0, .int .u64 0]) (t := 30) ?hr ?_; (case hd => rfl); (case hg => rfl); (case hr => first | (go_simp; done) | (go_simp; rfl)); intro gb763 hg w13 hbox hb; have n0_ := Aside0.mk (below_step (by repeat (first | (with_reducible first | exact HB.out | apply below_alloc | apply pw_below_drewN | apply below_drew1) | exact HB.out)) hb); have n1_ := Aside0.mk (hbox); have n2_ := Aside0.mk ((by rw [hg]; exact (below_size (by repeat (first | (with_reducible first | exact HB.out | apply below_alloc | apply pw_below_drewN | apply below_drew1) | exact HB.out))) : w.heap.size ≤ gb763)); have n3_ := Aside0.mk ((by rw [hg]; exact (below_size (by repeat (first | (with_reducible first | exact HB.out | apply below_alloc | apply pw_below_drewN | apply below_drew1) | exact HB.out))) : w.heap.size ≤ gb763)); clear HB; have HB := n0_; have BK763 := n1_; have GW763 := n2_; have GE763 := n3_; clear n0_ n1_ n2_ n3_; clear hb hbox hg; have p768 : 0 ≤ ((ji10) : Int) := of_decide_eq_true (by first | (with_reducible assumption) | assumption); have q768 : (ji10) < (l0.length : Int) := of_decide_eq_true (by first | (with_reducible assumption) | assumption); obtain ⟨ad768, e768, hx768_0, hx768_1, hx768_2, hx768_3⟩ := at_T30 HR0.out (ji10) p768 q768; cases e768; replace hx768_0 := (HB.out.cell (World.block_lt_of_cell? w _ hx768_0)).trans hx768_0; replace hx768_1 := (HB.out.cell (World.block_lt_of_cell? w _ hx768_1)).trans hx768_1; replace hx768_2 := (HB.out.cell (World.block_lt_of_cell? w _ hx768_2)).trans hx768_2; replace hx768_3 := (HB.out.cell (World.block_lt_of_cell? w _ hx768_3)).trans hx768_3; replace p768 := eq_true p768; replace q768 := eq_true q768) | ((with_reducible refine gate_dst (N := 3) rfl ?_); refine box_event ?hg (N := 3) ?hd (cs := #[.int .u64 0, .int .u64 0, .int .u64 0, .int .u64 0]) (t := 30) ?hr ?_; (case hd => rfl); (case hg => rfl); (case hr => first | (go_simp; done) | (go_simp; rfl)); intro gb769 hg w14 hbox hb; have n0_ := Aside0.mk (blk_below (g := gb763) (o := .cells #[.int .u64 0, .int .u64 0, .int .u64 0, .int .u64 0] 30 (0, 0)) (by (with_reducible repeat (first | refine blk_drewN ?_ _ | refine blk_drew ?_ | refine blk_alloc ?_ _)); exact BK763.out) hb); have n1_ := Aside0.mk (below_step (by repeat (first | (with_reducible first | exact HB.out | apply below_alloc | apply pw_below_drewN | apply below_drew1 | refine below_set ?_ GE763.out) | exact HB.out)) hb); have n2_ := Aside0.mk (hbox); have n3_ := Aside0.mk ((by rw [hg]; exact (below_size (by repeat (first | (with_reducible first | exact HB.out | apply below_alloc | apply pw_below_drewN | apply below_drew1 | refine below_set ?_ GE763.out) | exact HB.out))) : w.heap.size ≤ gb769)); have n4_ := Aside0.mk ((by rw [hg]; exact (below_size (by repeat (first | (with_reducible first | exact HB.out | apply below_alloc | apply pw_below_drewN | apply below_drew1 | refine below_set ?_ GE763.out) | exact HB.out))) : w.heap.size ≤ gb769)); have n5_ := Aside0.mk ((by rw [hg]; exact Nat.ne_of_lt (blk_lt (g := gb763) (o := .cells #[.int .u64 0, .int .u64 0, .int .u64 0, .int .u64 0] 30 (0, 0)) (by (with_reducible repeat (first | refine blk_drewN ?_ _ | refine blk_drew ?_ | refine blk_alloc ?_ _)); exact BK763.out)) : gb763 ≠ gb769)); have n6_ := Aside0.mk ((by rw [hg]; exact Nat.ne_of_gt (blk_lt (g := gb763) (o := .cells #[.int .u64 0, .int .u64 0, .int .u64 0, .int .u64 0] 30 (0, 0)) (by (with_reducible repeat (first | refine blk_drewN ?_ _ | refine blk_drew ?_ | refine blk_alloc ?_ _)); exact BK763.out)) : gb769 ≠ gb763)); clear BK763; clear HB; have BK763 := n0_; have HB := n1_; have BK769 := n2_; have GW769 := n3_; have GE769 := n4_; have NB763_769 := n5_; have NB769_763 := n6_; clear n0_ n1_ n2_ n3_ n4_ n5_ n6_; clear hb hbox hg; have hnb15 := NB769_763.out; have hnc15 := NB763_769.out; have hcz16_0 : w14.cell? ⟨gb769, 0, none⟩ = some (.int .u64 0) := (blk_cell BK769.out 0).trans rfl; have hcz16_1 : w14.cell? ⟨gb769, 1, none⟩ = some (.int .u64 0) := (blk_cell BK769.out 1).trans rfl; have hcz16_2 : w14.cell? ⟨gb769, 2, none⟩ = some (.int .u64 0) := (blk_cell BK769.out 2).trans rfl; have hcz16_3 : w14.cell? ⟨gb769, 3, none⟩ = some (.int .u64 0) := (blk_cell BK769.out 3).trans rfl; have hfz16_0 := blk_frozen BK769.out 0; have hfz16_1 := blk_frozen BK769.out 1; have hfz16_2 := blk_frozen BK769.out 2; have hfz16_3 := blk_frozen BK769.out 3))
          go_loopg [4] k (fun kq v4 w' => ∃ (x4_1 : Int) (x770000_1 : Int) (x770001_1 : Int) (x770002_1 : Int) (x770003_1 : Int), v4 = .int .i64 x4_1 ∧ Aside0 (spec_PeaksRoot.l0 kq l0 x4_1 x770000_1 x770001_1 x770002_1 x770003_1 = some (r1, r2, r3, r4)) ∧ Aside0 (kq ≤ k) ∧ Aside0 (w'.heap[gb763]? = some (.cells #[.int .u64 0, .int .u64 0, .int .u64 0, .int .u64 0] 30 (0, 0))) ∧ Aside0 (w'.heap[gb769]? = some (.cells #[.int .u64 x770000_1, .int .u64 x770001_1, .int .u64 x770002_1, .int .u64 x770003_1] 30 (0, 0))) ∧ Aside0 (Below w.heap.size w w'))
          case atStart => exact ⟨(wrap64 ((l0.length : Int) - 2)), ((rd_T30 l0 (ji10)).f0), ((rd_T30 l0 (ji10)).f1), ((rd_T30 l0 (ji10)).f2), ((rd_T30 l0 (ji10)).f3), (by first | rfl | (simp; done) | (simp [*]; done)), H', ⟨Nat.le_refl _⟩, ⟨by (with_reducible repeat (first | refine blk_drewN ?_ _ | refine blk_drew ?_ | refine blk_alloc ?_ _)); refine blk_far ?_ NB763_769.out _; (with_reducible repeat (first | refine blk_drewN ?_ _ | refine blk_drew ?_ | refine blk_alloc ?_ _)); refine blk_far ?_ NB763_769.out _; (with_reducible repeat (first | refine blk_drewN ?_ _ | refine blk_drew ?_ | refine blk_alloc ?_ _)); refine blk_far ?_ NB763_769.out _; (with_reducible repeat (first | refine blk_drewN ?_ _ | refine blk_drew ?_ | refine blk_alloc ?_ _)); refine blk_far ?_ NB763_769.out _; (with_reducible repeat (first | refine blk_drewN ?_ _ | refine blk_drew ?_ | refine blk_alloc ?_ _)); exact BK763.out⟩, ⟨by (with_reducible repeat (first | refine blk_drewN ?_ _ | refine blk_drew ?_ | refine blk_alloc ?_ _)); refine blk_put (cs := #[.int .u64 ((rd_T30 l0 (ji10)).f0), .int .u64 ((rd_T30 l0 (ji10)).f1), .int .u64 ((rd_T30 l0 (ji10)).f2), .int .u64 0]) ?_ 3 _ rfl; (with_reducible repeat (first | refine blk_drewN ?_ _ | refine blk_drew ?_ | refine blk_alloc ?_ _)); refine blk_put (cs := #[.int .u64 ((rd_T30 l0 (ji10)).f0), .int .u64 ((rd_T30 l0 (ji10)).f1), .int .u64 0, .int .u64 0]) ?_ 2 _ rfl; (with_reducible repeat (first | refine blk_drewN ?_ _ | refine blk_drew ?_ | refine blk_alloc ?_ _)); refine blk_put (cs := #[.int .u64 ((rd_T30 l0 (ji10)).f0), .int .u64 0, .int .u64 0, .int .u64 0]) ?_ 1 _ rfl; (with_reducible repeat (first | refine blk_drewN ?_ _ | refine blk_drew ?_ | refine blk_alloc ?_ _)); refine blk_put (cs := #[.int .u64 0, .int .u64 0, .int .u64 0, .int .u64 0]) ?_ 0 _ rfl; (with_reducible repeat (first | refine blk_drewN ?_ _ | refine blk_drew ?_ | refine blk_alloc ?_ _)); exact BK769.out⟩, ⟨by repeat (first | (with_reducible first | exact HB.out | apply below_alloc | apply pw_below_drewN | apply below_drew1 | refine below_set ?_ GE763.out | refine below_set ?_ GE769.out) | exact HB.out)⟩⟩
          case round =>
            clear H'
            try clear c1
            try clear c2
            try clear c2b0
            try clear c2b1
            try clear p2
            try clear c5
            try clear c5b0
            try clear c5b1
            try clear c5b2
            try clear c6
            try clear p6
            try clear p7
            try clear q7
            try clear hx7
            try clear c11
            try clear c11b0
            try clear c12
            try clear c12b0
            try clear c15
            try clear hcz16_0
            try clear hcz16_1
            try clear hcz16_2
            try clear hcz16_3
            try clear hcz4_0
            try clear hcz4_1
            try clear hcz4_2
            try clear hcz4_3
            try clear hcz9_0
            try clear hcz9_1
            try clear hcz9_2
            try clear hcz9_3
            try clear hfz16_0
            try clear hfz16_1
            try clear hfz16_2
            try clear hfz16_3
            try clear hfz4_0
            try clear hfz4_1
            try clear hfz4_2
            try clear hfz4_3
            try clear hfz9_0
            try clear hfz9_1
            try clear hfz9_2
            try clear hfz9_3
            try clear hx768_0
            try clear hx768_1
            try clear hx768_2
            try clear hx768_3
            try clear p768
            try clear q768
            obtain ⟨x4_1, x770000_1, x770001_1, x770002_1, x770003_1, rfl, HA, HK1, BK763, BK769, HB⟩ := hrel
            cases gk with
            | zero => exact absurd HA.out (by simp [spec_PeaksRoot.l0])
            | succ k1 =>
              have H := HA.out
              clear HA
              simp only [spec_PeaksRoot.l0] at H
              by_cases c17 : x4_1 ≥ 0
              · rw [if_pos c17] at H
                have c17b0 : decide (0 ≤ x4_1) = true := decide_eq_true c17
                clear c17
                by_cases c18 : 0 ≤ x4_1
                · rw [if_pos c18] at H
                  have c18b0 : decide (0 ≤ x4_1) = true := decide_eq_true c18
                  clear c18
                  by_cases c19 : x4_1 < (l0.length : Int)
                  · rw [if_pos c19] at H
                    have c19b0 : decide (x4_1 < (l0.length : Int)) = true := decide_eq_true c19
                    clear c19
                    replace H := Option.bind_eq_some_iff.mp H
                    obtain ⟨⟨t771, t772, t773, t774⟩, A200, H⟩ := H
                    replace H : (spec_PeaksRoot.l0 k1 l0 (wrap64 (x4_1 - 1)) t771 t772 t773 t774) = some (r1, r2, r3, r4) := H
                    have A20 := Aside0.mk A200
                    clear A200
                    have H' := Aside0.mk H
                    clear H
                    try go_wp2
                    have n0_ := Aside0.mk (blk_drew BK763.out)
                    have n1_ := Aside0.mk (blk_drew BK769.out)
                    have n2_ := Aside0.mk (below_drew1 HB.out)
                    clear BK763
                    clear BK769
                    clear HB
                    have BK763 := n0_
                    have BK769 := n1_
                    have HB := n2_
                    clear n0_ n1_ n2_
                    have p770 : 0 ≤ (x4_1 : Int) := of_decide_eq_true (by first | (with_reducible assumption) | assumption)
                    have q770 : x4_1 < (l0.length : Int) := of_decide_eq_true (by first | (with_reducible assumption) | assumption)
                    obtain ⟨ad770, e770, hx770_0, hx770_1, hx770_2, hx770_3⟩ := at_T30 HR0.out x4_1 p770 q770
                    have hw770_3 := hx770_3
                    have hw770_2 := hx770_2
                    have hw770_1 := hx770_1
                    have hw770_0 := hx770_0
                    obtain rfl : ad768 = ad770 := (by injection e770)
                    replace hx770_0 := (HB.out.cell (World.block_lt_of_cell? w _ hx770_0)).trans hx770_0
                    replace hx770_1 := (HB.out.cell (World.block_lt_of_cell? w _ hx770_1)).trans hx770_1
                    replace hx770_2 := (HB.out.cell (World.block_lt_of_cell? w _ hx770_2)).trans hx770_2
                    replace hx770_3 := (HB.out.cell (World.block_lt_of_cell? w _ hx770_3)).trans hx770_3
                    replace p770 := eq_true p770
                    replace q770 := eq_true q770
                    refine start_ (n := 7) (S := fun w' => w'.cell? ⟨gb769, 0, none⟩ = some (.int .u64 x770000_1) ∧ w'.cell? ⟨gb769, 1, none⟩ = some (.int .u64 x770001_1) ∧ w'.cell? ⟨gb769, 2, none⟩ = some (.int .u64 x770002_1) ∧ w'.cell? ⟨gb769, 3, none⟩ = some (.int .u64 x770003_1) ∧ w'.cell? (ad768.add ((x4_1).toNat * 4)) = some (.int .u64 ((rd_T30 l0 x4_1).f0)) ∧ w'.cell? ⟨(ad768.add ((x4_1).toNat * 4)).block, (ad768.add ((x4_1).toNat * 4)).off + 1, none⟩ = some (.int .u64 ((rd_T30 l0 x4_1).f1)) ∧ w'.cell? ⟨(ad768.add ((x4_1).toNat * 4)).block, (ad768.add ((x4_1).toNat * 4)).off + 2, none⟩ = some (.int .u64 ((rd_T30 l0 x4_1).f2)) ∧ w'.cell? ⟨(ad768.add ((x4_1).toNat * 4)).block, (ad768.add ((x4_1).toNat * 4)).off + 3, none⟩ = some (.int .u64 ((rd_T30 l0 x4_1).f3))) (ds := [6]) #[false, false, false, false, false, false, false] (by kernel_rfl) rfl rfl ⟨(blk_cell BK769.out 0).trans rfl, (blk_cell BK769.out 1).trans rfl, (blk_cell BK769.out 2).trans rfl, (blk_cell BK769.out 3).trans rfl, ((HB.out.cell (World.block_lt_of_cell? w _ hw770_0)).trans hw770_0), ((HB.out.cell (World.block_lt_of_cell? w _ hw770_1)).trans hw770_1), ((HB.out.cell (World.block_lt_of_cell? w _ hw770_2)).trans hw770_2), ((HB.out.cell (World.block_lt_of_cell? w _ hw770_3)).trans hw770_3)⟩ (fun hHeld => ?_)
                    generalize wr.drew = w21 at BK763 BK769 HB hx770_0 hx770_1 hx770_2 hx770_3 hHeld ⊢
                    refine pure_ (i := 0) (N := some 26) (v := ?_) (a' := ?_) #[true, false, false, false, false, false, false] rfl rfl (by kernel_rfl) (fun _ _ _ h => h) (Or.inl ⟨by rfl, ?_⟩) ?_ ?_
                    rotate_left
                    · intro w'
                      go_simp
                      with_reducible rfl
                    rotate_left
                    · simp only [Act.put, List.setIfInBounds_toArray, List.set_cons_zero, List.set_cons_succ, i64_w, i32_w]
                      rfl
                    refine pure_ (i := 1) (N := some 27) (v := ?_) (a' := ?_) #[true, true, false, false, false, false, false] rfl rfl (by kernel_rfl) (fun _ _ _ h => h) (Or.inl ⟨by rfl, ?_⟩) ?_ ?_
                    rotate_left
                    · intro w'
                      go_simp
                      with_reducible rfl
                    rotate_left
                    · simp only [Act.put, List.setIfInBounds_toArray, List.set_cons_zero, List.set_cons_succ, i64_w, i32_w]
                      rfl
                    refine pure_ (i := 2) (N := some 28) (v := ?_) (a' := ?_) #[true, true, true, false, false, false, false] rfl rfl (by kernel_rfl) (fun _ _ _ h => h) (Or.inl ⟨by rfl, ?_⟩) ?_ ?_
                    rotate_left
                    · intro w'
                      go_simp
                      with_reducible rfl
                    rotate_left
                    · simp only [Act.put, List.setIfInBounds_toArray, List.set_cons_zero, List.set_cons_succ, i64_w, i32_w]
                      rfl
                    refine take_ (i := 3) (N := some 29) (v := ?_) (a' := ?_) #[true, true, true, true, false, false, false] rfl rfl (by kernel_rfl) (fun _ _ _ h => h) (Or.inl ⟨by rfl, ?_⟩) hHeld ?_ ?_
                    rotate_left
                    · rintro w' ⟨s0, s1, s2, s3, s4, s5, s6, s7⟩
                      go_simp
                      with_reducible rfl
                    rotate_left
                    · simp only [Act.put, List.setIfInBounds_toArray, List.set_cons_zero, List.set_cons_succ, i64_w, i32_w]
                      rfl
                    refine take_ (i := 4) (N := some 30) (v := ?_) (a' := ?_) #[true, true, true, true, true, false, false] rfl rfl (by kernel_rfl) (fun _ _ _ h => h) (Or.inl ⟨by rfl, ?_⟩) hHeld ?_ ?_
                    rotate_left
                    · rintro w' ⟨s0, s1, s2, s3, s4, s5, s6, s7⟩
                      go_simp
                      with_reducible rfl
                    rotate_left
                    · simp only [Act.put, List.setIfInBounds_toArray, List.set_cons_zero, List.set_cons_succ, i64_w, i32_w]
                      rfl
                    refine one_ (i := 5) (N := some 31) #[true, true, true, true, true, true, false] rfl rfl (by kernel_rfl) (by decide) (fun K hK => ?_)
                    refine goes_ Try.func60 (by kernel_rfl) rfl #[.agg #[.int .u64 ((rd_T30 l0 x4_1).f0), .int .u64 ((rd_T30 l0 x4_1).f1), .int .u64 ((rd_T30 l0 x4_1).f2), .int .u64 ((rd_T30 l0 x4_1).f3)], .agg #[.int .u64 x770000_1, .int .u64 x770001_1, .int .u64 x770002_1, .int .u64 x770003_1]] (by rfl) rfl rfl (by (try simp only [List.map_toArray, List.map_cons, List.map_nil]); first | done | rfl | (simp only [List.length_drop, List.length_take]; rfl)) ?_
                    with_reducible refine (spec_HashPair.calls k1 ((rd_T30 l0 x4_1).f0) ((rd_T30 l0 x4_1).f1) ((rd_T30 l0 x4_1).f2) ((rd_T30 l0 x4_1).f3) x770000_1 x770001_1 x770002_1 x770003_1 t771 t772 t773 t774 _ A20.out).mono ?_
                    rintro e w22 ⟨rfl, hb⟩
                    refine ⟨_, rfl, ?_⟩
                    have n0_ := Aside0.mk (blk_below (g := gb763) (o := .cells #[.int .u64 0, .int .u64 0, .int .u64 0, .int .u64 0] 30 (0, 0)) (by (with_reducible repeat (first | refine blk_drewN ?_ _ | refine blk_drew ?_ | refine blk_alloc ?_ _)); exact BK763.out) hb)
                    have n1_ := Aside0.mk (blk_below (g := gb769) (o := .cells #[.int .u64 x770000_1, .int .u64 x770001_1, .int .u64 x770002_1, .int .u64 x770003_1] 30 (0, 0)) (by (with_reducible repeat (first | refine blk_drewN ?_ _ | refine blk_drew ?_ | refine blk_alloc ?_ _)); exact BK769.out) hb)
                    have n2_ := Aside0.mk (below_step (by repeat (first | (with_reducible first | exact HB.out | apply below_alloc | apply pw_below_drewN | apply below_drew1 | refine below_set ?_ GE763.out | refine below_set ?_ GE769.out) | exact HB.out)) hb)
                    clear BK763
                    clear BK769
                    clear HB
                    have BK763 := n0_
                    have BK769 := n1_
                    have HB := n2_
                    clear n0_ n1_ n2_
                    (try clear hb)
                    (try clear hb2)
                    (try clear hk)
                    (try clear hi)
                    refine hK.out _ _ ⟨(blk_cell BK769.out 0).trans rfl, (blk_cell BK769.out 1).trans rfl, (blk_cell BK769.out 2).trans rfl, (blk_cell BK769.out 3).trans rfl, ((HB.out.cell (World.block_lt_of_cell? w _ hw770_0)).trans hw770_0), ((HB.out.cell (World.block_lt_of_cell? w _ hw770_1)).trans hw770_1), ((HB.out.cell (World.block_lt_of_cell? w _ hw770_2)).trans hw770_2), ((HB.out.cell (World.block_lt_of_cell? w _ hw770_3)).trans hw770_3)⟩ (fun hHeld => ?_)
                    clear hK K
                    refine norm_ (a' := ?_) ?_ ?_
                    rotate_left
                    · show Act.put _ (some 31) _ = _
                      simp only [Act.put, List.setIfInBounds_toArray, List.set_cons_zero, List.set_cons_succ, i64_w, i32_w]
                      rfl
                    refine last_ (i := 6) (N := none) #[true, true, true, true, true, true, true] rfl rfl (by kernel_rfl) (by decide) (fun K hK => ?_)
                    have hs23 : w22.cell? ⟨gb769, 0, none⟩ = some (.int .u64 x770000_1) := (blk_cell BK769.out 0).trans rfl
                    have hfs23 := blk_frozen BK769.out 0
                    have hns23_0 := NB763_769.out
                    have hms23_0 := NB769_763.out
                    have hs24 : w22.cell? ⟨gb769, 1, none⟩ = some (.int .u64 x770001_1) := (blk_cell BK769.out 1).trans rfl
                    have hfs24 := blk_frozen BK769.out 1
                    have hns24_0 := NB763_769.out
                    have hms24_0 := NB769_763.out
                    have hs25 : w22.cell? ⟨gb769, 2, none⟩ = some (.int .u64 x770002_1) := (blk_cell BK769.out 2).trans rfl
                    have hfs25 := blk_frozen BK769.out 2
                    have hns25_0 := NB763_769.out
                    have hms25_0 := NB769_763.out
                    have hs26 : w22.cell? ⟨gb769, 3, none⟩ = some (.int .u64 x770003_1) := (blk_cell BK769.out 3).trans rfl
                    have hfs26 := blk_frozen BK769.out 3
                    have hns26_0 := NB763_769.out
                    have hms26_0 := NB769_763.out
                    refine skip_ (w1 := ?_) (by rfl) rfl ?_ ?_
                    rotate_left
                    · go_simp
                      rfl
                    refine hK.out _ _ ?_
                    clear hK K
                    refine done_ (by kernel_rfl) ?_
                    try go_wp2
                    go_roundg k1
                    case measure => have := HK1.out; omega
                    case rel => exact ⟨(wrap64 (x4_1 - 1)), (t771), (t772), (t773), (t774), (by first | rfl | (simp; done) | (simp [*]; done)), H', ⟨by have := HK1.out; omega⟩, ⟨by (with_reducible repeat (first | refine blk_drewN ?_ _ | refine blk_drew ?_ | refine blk_alloc ?_ _)); refine blk_far ?_ NB763_769.out _; (with_reducible repeat (first | refine blk_drewN ?_ _ | refine blk_drew ?_ | refine blk_alloc ?_ _)); refine blk_far ?_ NB763_769.out _; (with_reducible repeat (first | refine blk_drewN ?_ _ | refine blk_drew ?_ | refine blk_alloc ?_ _)); refine blk_far ?_ NB763_769.out _; (with_reducible repeat (first | refine blk_drewN ?_ _ | refine blk_drew ?_ | refine blk_alloc ?_ _)); refine blk_far ?_ NB763_769.out _; (with_reducible repeat (first | refine blk_drewN ?_ _ | refine blk_drew ?_ | refine blk_alloc ?_ _)); exact BK763.out⟩, ⟨by (with_reducible repeat (first | refine blk_drewN ?_ _ | refine blk_drew ?_ | refine blk_alloc ?_ _)); refine blk_put (cs := #[.int .u64 t771, .int .u64 t772, .int .u64 t773, .int .u64 x770003_1]) ?_ 3 _ rfl; (with_reducible repeat (first | refine blk_drewN ?_ _ | refine blk_drew ?_ | refine blk_alloc ?_ _)); refine blk_put (cs := #[.int .u64 t771, .int .u64 t772, .int .u64 x770002_1, .int .u64 x770003_1]) ?_ 2 _ rfl; (with_reducible repeat (first | refine blk_drewN ?_ _ | refine blk_drew ?_ | refine blk_alloc ?_ _)); refine blk_put (cs := #[.int .u64 t771, .int .u64 x770001_1, .int .u64 x770002_1, .int .u64 x770003_1]) ?_ 1 _ rfl; (with_reducible repeat (first | refine blk_drewN ?_ _ | refine blk_drew ?_ | refine blk_alloc ?_ _)); refine blk_put (cs := #[.int .u64 x770000_1, .int .u64 x770001_1, .int .u64 x770002_1, .int .u64 x770003_1]) ?_ 0 _ rfl; (with_reducible repeat (first | refine blk_drewN ?_ _ | refine blk_drew ?_ | refine blk_alloc ?_ _)); exact BK769.out⟩, ⟨by repeat (first | (with_reducible first | exact HB.out | apply below_alloc | apply pw_below_drewN | apply below_drew1 | refine below_set ?_ GE763.out | refine below_set ?_ GE769.out) | exact HB.out)⟩⟩
                  · rw [if_neg c19] at H
                    exact absurd H (by simp)
                · rw [if_neg c18] at H
                  exact absurd H (by simp)
              · rw [if_neg c17] at H
                have c17b0 : decide (0 ≤ x4_1) = false := decide_eq_false c17
                clear c17
                simp only [Option.some.injEq, Prod.mk.injEq] at H
                obtain ⟨rfl, rfl, rfl, rfl⟩ := H
                have hnb27 := NB769_763.out
                have hnc27 := NB763_769.out
                have hcz28_0 : wr.cell? ⟨gb769, 0, none⟩ = some (.int .u64 x770000_1) := (blk_cell BK769.out 0).trans rfl
                have hcz28_1 : wr.cell? ⟨gb769, 1, none⟩ = some (.int .u64 x770001_1) := (blk_cell BK769.out 1).trans rfl
                have hcz28_2 : wr.cell? ⟨gb769, 2, none⟩ = some (.int .u64 x770002_1) := (blk_cell BK769.out 2).trans rfl
                have hcz28_3 : wr.cell? ⟨gb769, 3, none⟩ = some (.int .u64 x770003_1) := (blk_cell BK769.out 3).trans rfl
                have hfz28_0 := blk_frozen BK769.out 0
                have hfz28_1 := blk_frozen BK769.out 1
                have hfz28_2 := blk_frozen BK769.out 2
                have hfz28_3 := blk_frozen BK769.out 3
                have hcz29_0 : wr.cell? ⟨gb763, 0, none⟩ = some (.int .u64 0) := (blk_cell BK763.out 0).trans rfl
                have hcz29_1 : wr.cell? ⟨gb763, 1, none⟩ = some (.int .u64 0) := (blk_cell BK763.out 1).trans rfl
                have hcz29_2 : wr.cell? ⟨gb763, 2, none⟩ = some (.int .u64 0) := (blk_cell BK763.out 2).trans rfl
                have hcz29_3 : wr.cell? ⟨gb763, 3, none⟩ = some (.int .u64 0) := (blk_cell BK763.out 3).trans rfl
                have hfz29_0 := blk_frozen BK763.out 0
                have hfz29_1 := blk_frozen BK763.out 1
                have hfz29_2 := blk_frozen BK763.out 2
                have hfz29_3 := blk_frozen BK763.out 3
                go_wp2
                refine bodyPost_ret (results_cell_row rfl _ _ gb763 30 #[.int .u64 x770000_1, .int .u64 x770001_1, .int .u64 x770002_1, .int .u64 x770003_1] (0, 0) _ rfl (by (with_reducible repeat (first | refine blk_drewN ?_ _ | refine blk_drew ?_ | refine blk_alloc ?_ _)); refine blk_put (cs := #[.int .u64 x770000_1, .int .u64 x770001_1, .int .u64 x770002_1, .int .u64 0]) ?_ 3 _ rfl; (with_reducible repeat (first | refine blk_drewN ?_ _ | refine blk_drew ?_ | refine blk_alloc ?_ _)); refine blk_put (cs := #[.int .u64 x770000_1, .int .u64 x770001_1, .int .u64 0, .int .u64 0]) ?_ 2 _ rfl; (with_reducible repeat (first | refine blk_drewN ?_ _ | refine blk_drew ?_ | refine blk_alloc ?_ _)); refine blk_put (cs := #[.int .u64 x770000_1, .int .u64 0, .int .u64 0, .int .u64 0]) ?_ 1 _ rfl; (with_reducible repeat (first | refine blk_drewN ?_ _ | refine blk_drew ?_ | refine blk_alloc ?_ _)); refine blk_put (cs := #[.int .u64 0, .int .u64 0, .int .u64 0, .int .u64 0]) ?_ 0 _ rfl; (with_reducible repeat (first | refine blk_drewN ?_ _ | refine blk_drew ?_ | refine blk_alloc ?_ _)); exact BK763.out) Try.underlying30 rfl (by kernel_rfl)) rfl ?_
                exact ⟨by first | rfl | (simp [errW_none, errW_some] <;> rfl) | (simp only [← hji10]; first | rfl | (simp [errW_none, errW_some] <;> rfl)) | (simp [*, errW_none, errW_some] <;> rfl), by repeat (first | (with_reducible first | exact HB.out | apply below_alloc | apply pw_below_drewN | apply below_drew1 | refine below_set ?_ GE763.out | refine below_set ?_ GE769.out) | exact HB.out)⟩
        · rw [if_neg c12] at H
          exact absurd H (by simp)
      · rw [if_neg c11] at H
        exact absurd H (by simp)

end Go.Proofs.Ytfbhlofifodkjaa.B
