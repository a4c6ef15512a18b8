/- What the Go function loop.example/belfry/impl.PeaksRoot does is what the Lean function .f of its name here says; condition: .f gives an answer. (Written by the session's program pp.py over the kit's print; Lean checks it.) -/
import Derived.Test.YtfbhlofifodkjaaK
import Derived.Test.YtfbhlofifodkjaaFImplHashOf
import Derived.Test.YtfbhlofifodkjaaFImplHashPair
namespace Go.Proofs.Ytfbhlofifodkjaa.B
open Go.RowKit Go.Proofs.YtfbhlofifodkjaaW.PrintWords Go.Proofs.YtfbhlofifodkjaaW.PrintLast Go.Proofs.YtfbhlofifodkjaaW.PrintMore
attribute [local go_sem] max2_int min2_int max_two min_two max_three min_three max_four min_four   -- for this text's walks alone
set_option linter.unusedVariables false
set_option linter.unusedSimpArgs false

/-! ### impl_PeaksRoot: function 71 -/
def impl_PeaksRoot.f : Nat → List (S30) → Option (Int × Int × Int × Int)
  | 0, _ => none
  | k + 1, l0 => if (l0.length : Int) = 0 then ((impl_HashOf.f k (⟨#[]⟩ : ByteArray)).bind fun bt785 => (some (bt785.1, bt785.2.1, bt785.2.2.1, bt785.2.2.2))) else (if (l0.length : Int) > 8 then (some (0, 0, 0, 0)) else (if (l0.length : Int) = 1 then (if 0 < (l0.length : Int) then (some ((rd_T30 l0 0).f0, (rd_T30 l0 0).f1, (rd_T30 l0 0).f2, (rd_T30 l0 0).f3)) else (none)) else (if 0 < (l0.length : Int) then (if 1 ≤ (l0.length : Int) then ((impl_PeaksRoot.f k (l0.drop 1)).bind fun bt795 => ((impl_HashPair.f k ((rd_T30 l0 0).f0) ((rd_T30 l0 0).f1) ((rd_T30 l0 0).f2) ((rd_T30 l0 0).f3) bt795.1 bt795.2.1 bt795.2.2.1 bt795.2.2.2).bind fun bt799 => (some (bt799.1, bt799.2.1, bt799.2.2.1, bt799.2.2.2)))) else (none)) else (none))))
theorem impl_PeaksRoot.mono_l : ∀ k, (∀ y0, LeO (impl_PeaksRoot.f k y0) (impl_PeaksRoot.f (k + 1) y0))
  | 0 => fun _ r h => by simp [impl_PeaksRoot.f] at h
  | k + 1 => by
    have ih0 := impl_PeaksRoot.mono_l k
    · intro y0
      unfold impl_PeaksRoot.f
      repeat' first
      | (with_reducible exact ih0 _)
      | (with_reducible exact impl_HashOf.mono _ _)
      | (with_reducible exact impl_HashPair.mono _ _ _ _ _ _ _ _ _)
      | (with_reducible exact LeO.refl _)
      | (with_reducible exact LeO.none _)
      | (with_reducible refine LeO.ite ?_ ?_)
      | (with_reducible refine LeO.bind ?_ (fun _ => ?_))
      | exact ih0 _
      | exact impl_HashOf.mono _ _
      | exact impl_HashPair.mono _ _ _ _ _ _ _ _ _
      | exact LeO.none _
      | refine LeO.ite ?_ ?_
      | refine LeO.bind ?_ (fun _ => ?_)
theorem impl_PeaksRoot.mono : ∀ a0 k, LeO (impl_PeaksRoot.f k a0) (impl_PeaksRoot.f (k + 1) a0) := by
  intro a0 k
  have ih0 := impl_PeaksRoot.mono_l k
  exact ih0 a0
def impl_PeaksRoot.T7 : Bool × List (List Nat × List Nat) := (true, [([], []), ([0], [0]), ([1], [1]), ([], []), ([3], [3]), ([4], [4]), ([2, 5, 5], [2, 5]), ([6, 6, 0, 1, 2, 3, 4, 5, 6], [6])])
def impl_PeaksRoot.B7 : List Nat := [0, 1, 3, 0, 8, 24, 63, 127]
theorem impl_PeaksRoot.tab7 : rtab .any (opsOf Try.f71 7) = impl_PeaksRoot.T7 := by kernel_rfl
theorem impl_PeaksRoot.bits7 : waitsOk impl_PeaksRoot.T7.2 impl_PeaksRoot.B7 = true := by kernel_rfl
set_option maxHeartbeats 8000000 in
set_option maxRecDepth 100000 in
theorem impl_PeaksRoot.calls (k : Nat) : ∀ (A0 : Option Addr) (c0 : Nat) (l0 : List (S30)) (r1 : Int) (r2 : Int) (r3 : Int) (r4 : Int) (w : World) (hr0 : Kd.C k30 w A0 l0.length l0) (hc0 : l0.length ≤ c0) (h : impl_PeaksRoot.f k l0 = some (r1, r2, r3, r4)),
    Calls Try.prog 71 #[.slice A0 l0.length c0] w fun e w' => e = .returned (.agg #[.int .u64 r1, .int .u64 r2, .int .u64 r3, .int .u64 r4]) ∧ Below w.heap.size w w' := by
  induction k using Nat.strongRecOn with
  | _ k ih =>
  intro A0 c0 l0 r1 r2 r3 r4 w hr0 hc0 h
  cases k with
  | zero => exact absurd h (by simp [impl_PeaksRoot.f])
  | succ k =>
  simp only [impl_PeaksRoot.f] at h
  have hu30 := Try.underlying30
  have HR0 := Aside0.mk hr0
  have HC0 := Aside0.mk hc0
  clear hr0 hc0
  have HB := Aside0.mk (Below.refl w.heap.size w)
  have H : (if (l0.length : Int) = 0 then ((impl_HashOf.f k (⟨#[]⟩ : ByteArray)).bind fun bt785 => (some (bt785.1, bt785.2.1, bt785.2.2.1, bt785.2.2.2))) else (if (l0.length : Int) > 8 then (some (0, 0, 0, 0)) else (if (l0.length : Int) = 1 then (if 0 < (l0.length : Int) then (some ((rd_T30 l0 0).f0, (rd_T30 l0 0).f1, (rd_T30 l0 0).f2, (rd_T30 l0 0).f3)) else (none)) else (if 0 < (l0.length : Int) then (if 1 ≤ (l0.length : Int) then ((impl_PeaksRoot.f k (l0.drop 1)).bind fun bt795 => ((impl_HashPair.f k ((rd_T30 l0 0).f0) ((rd_T30 l0 0).f1) ((rd_T30 l0 0).f2) ((rd_T30 l0 0).f3) bt795.1 bt795.2.1 bt795.2.2.1 bt795.2.2.2).bind fun bt799 => (some (bt799.1, bt799.2.1, bt799.2.2.1, bt799.2.2.2)))) else (none)) else (none))))) = some (r1, r2, r3, r4) := h
  clear h
  by_cases c2 : (l0.length : Int) = 0
  · rw [if_pos c2] at H
    have c2b0 : ((l0.length : Int) == 0) = true := beq_iff_eq.mpr c2
    have c2b1 : ((l0.length : Int) != 0) = false := bne_eq_false_iff_eq.mpr c2
    clear c2
    replace H := Option.bind_eq_some_iff.mp H
    obtain ⟨⟨t785, t786, t787, t788⟩, A30, H⟩ := H
    replace H : (some (t785, t786, t787, t788)) = some (r1, r2, r3, r4) := H
    have A3 := Aside0.mk A30
    clear A30
    simp only [Option.some.injEq, Prod.mk.injEq] at H
    obtain ⟨rfl, rfl, rfl, rfl⟩ := H
    go_enter Try.func71, Try.ntmps71
    go_wp2_with (first | ((with_reducible refine gate_dst (N := 2) rfl ?_); refine box_event ?hg (N := 2) ?hd (cs := #[.int .u64 0, .int .u64 0, .int .u64 0, .int .u64 0]) (t := 30) ?hr ?_; (case hd => rfl); (case hg => rfl); (case hr => first | (go_simp; done) | (go_simp; rfl)); intro gb784 hg w4 hbox hb; have n0_ := Aside0.mk (below_step (by repeat (first | (with_reducible first | exact HB.out | apply below_alloc | apply pw_below_drewN | apply below_drew1) | exact HB.out)) hb); have n1_ := Aside0.mk (hbox); have n2_ := Aside0.mk ((by rw [hg]; exact (below_size (by repeat (first | (with_reducible first | exact HB.out | apply below_alloc | apply pw_below_drewN | apply below_drew1) | exact HB.out))) : w.heap.size ≤ gb784)); have n3_ := Aside0.mk ((by rw [hg]; exact (below_size (by repeat (first | (with_reducible first | exact HB.out | apply below_alloc | apply pw_below_drewN | apply below_drew1) | exact HB.out))) : w.heap.size ≤ gb784)); clear HB; have HB := n0_; have BK784 := n1_; have GW784 := n2_; have GE784 := n3_; clear n0_ n1_ n2_ n3_; clear hb hbox hg) | ((with_reducible refine gate_callee (f := 53) rfl ?_); refine goesL_ (some 7) rfl rfl Try.func53 (by kernel_rfl) rfl #[.string (⟨#[]⟩ : ByteArray)] rfl (by (try simp only [List.map_toArray, List.map_cons, List.map_nil]); first | done | rfl | (simp only [List.length_drop, List.length_take]; rfl)) ?_; (with_reducible refine (impl_HashOf.calls k (⟨#[]⟩ : ByteArray) t785 t786 t787 t788 _ A3.out).mono ?_); rintro e w5 ⟨rfl, hb⟩; refine ⟨_, rfl, ?_⟩; have n0_ := Aside0.mk (blk_below (g := gb784) (o := .cells #[.int .u64 0, .int .u64 0, .int .u64 0, .int .u64 0] 30 (0, 0)) (by (with_reducible repeat (first | refine blk_drewN ?_ _ | refine blk_drew ?_ | refine blk_alloc ?_ _)); exact BK784.out) hb); have n1_ := Aside0.mk (below_step (by repeat (first | (with_reducible first | exact HB.out | apply below_alloc | apply pw_below_drewN | apply below_drew1 | refine below_set ?_ GE784.out) | exact HB.out)) hb); clear BK784; clear HB; have BK784 := n0_; have HB := n1_; clear n0_ n1_; (try clear hb); (try clear hb2); (try clear hk); (try clear hi); have hcz6_0 : w5.cell? ⟨gb784, 0, none⟩ = some (.int .u64 0) := (blk_cell BK784.out 0).trans rfl; have hcz6_1 : w5.cell? ⟨gb784, 1, none⟩ = some (.int .u64 0) := (blk_cell BK784.out 1).trans rfl; have hcz6_2 : w5.cell? ⟨gb784, 2, none⟩ = some (.int .u64 0) := (blk_cell BK784.out 2).trans rfl; have hcz6_3 : w5.cell? ⟨gb784, 3, none⟩ = some (.int .u64 0) := (blk_cell BK784.out 3).trans rfl; have hfz6_0 := blk_frozen BK784.out 0; have hfz6_1 := blk_frozen BK784.out 1; have hfz6_2 := blk_frozen BK784.out 2; have hfz6_3 := blk_frozen BK784.out 3))
    refine bodyPost_ret (results_cell_row rfl _ _ gb784 30 #[.int .u64 t785, .int .u64 t786, .int .u64 t787, .int .u64 t788] (0, 0) _ rfl (by (with_reducible repeat (first | refine blk_drewN ?_ _ | refine blk_drew ?_ | refine blk_alloc ?_ _)); refine blk_put (cs := #[.int .u64 t785, .int .u64 t786, .int .u64 t787, .int .u64 0]) ?_ 3 _ rfl; (with_reducible repeat (first | refine blk_drewN ?_ _ | refine blk_drew ?_ | refine blk_alloc ?_ _)); refine blk_put (cs := #[.int .u64 t785, .int .u64 t786, .int .u64 0, .int .u64 0]) ?_ 2 _ rfl; (with_reducible repeat (first | refine blk_drewN ?_ _ | refine blk_drew ?_ | refine blk_alloc ?_ _)); refine blk_put (cs := #[.int .u64 t785, .int .u64 0, .int .u64 0, .int .u64 0]) ?_ 1 _ rfl; (with_reducible repeat (first | refine blk_drewN ?_ _ | refine blk_drew ?_ | refine blk_alloc ?_ _)); refine blk_put (cs := #[.int .u64 0, .int .u64 0, .int .u64 0, .int .u64 0]) ?_ 0 _ rfl; (with_reducible repeat (first | refine blk_drewN ?_ _ | refine blk_drew ?_ | refine blk_alloc ?_ _)); exact BK784.out) Try.underlying30 rfl (by kernel_rfl)) rfl ?_
    exact ⟨by first | rfl | (simp [errW_none, errW_some] <;> rfl) | (simp [*, errW_none, errW_some] <;> rfl), by repeat (first | (with_reducible first | exact HB.out | apply below_alloc | apply pw_below_drewN | apply below_drew1 | refine below_set ?_ GE784.out) | exact HB.out)⟩
  · rw [if_neg c2] at H
    have c2b0 : ((l0.length : Int) == 0) = false := beq_eq_false_iff_ne.mpr c2
    have c2b1 : ((l0.length : Int) != 0) = true := bne_iff_ne.mpr c2
    have c2b2 : ¬ (l0 = []) := fun h_ => c2 (by rw [h_]; rfl)
    by_cases c7 : (l0.length : Int) > 8
    · rw [if_pos c7] at H
      have c7b0 : decide (8 < (l0.length : Int)) = true := decide_eq_true c7
      have c7b1 : decide (8 < l0.length) = true := decide_eq_true (by omega)
      clear c7
      simp only [Option.some.injEq, Prod.mk.injEq] at H
      obtain ⟨rfl, rfl, rfl, rfl⟩ := H
      go_enter Try.func71, Try.ntmps71
      go_wp2_with (first | ((with_reducible refine gate_dst (N := 2) rfl ?_); refine box_event ?hg (N := 2) ?hd (cs := #[.int .u64 0, .int .u64 0, .int .u64 0, .int .u64 0]) (t := 30) ?hr ?_; (case hd => rfl); (case hg => rfl); (case hr => first | (go_simp; done) | (go_simp; rfl)); intro gb784 hg w8 hbox hb; have n0_ := Aside0.mk (below_step (by repeat (first | (with_reducible first | exact HB.out | apply below_alloc | apply pw_below_drewN | apply below_drew1) | exact HB.out)) hb); have n1_ := Aside0.mk (hbox); have n2_ := Aside0.mk ((by rw [hg]; exact (below_size (by repeat (first | (with_reducible first | exact HB.out | apply below_alloc | apply pw_below_drewN | apply below_drew1) | exact HB.out))) : w.heap.size ≤ gb784)); have n3_ := Aside0.mk ((by rw [hg]; exact (below_size (by repeat (first | (with_reducible first | exact HB.out | apply below_alloc | apply pw_below_drewN | apply below_drew1) | exact HB.out))) : w.heap.size ≤ gb784)); clear HB; have HB := n0_; have BK784 := n1_; have GW784 := n2_; have GE784 := n3_; clear n0_ n1_ n2_ n3_; clear hb hbox hg; have hcz9_0 : w8.cell? ⟨gb784, 0, none⟩ = some (.int .u64 0) := (blk_cell BK784.out 0).trans rfl; have hcz9_1 : w8.cell? ⟨gb784, 1, none⟩ = some (.int .u64 0) := (blk_cell BK784.out 1).trans rfl; have hcz9_2 : w8.cell? ⟨gb784, 2, none⟩ = some (.int .u64 0) := (blk_cell BK784.out 2).trans rfl; have hcz9_3 : w8.cell? ⟨gb784, 3, none⟩ = some (.int .u64 0) := (blk_cell BK784.out 3).trans rfl; have hfz9_0 := blk_frozen BK784.out 0; have hfz9_1 := blk_frozen BK784.out 1; have hfz9_2 := blk_frozen BK784.out 2; have hfz9_3 := blk_frozen BK784.out 3))
      refine bodyPost_ret (results_cell_row rfl _ _ gb784 30 #[.int .u64 0, .int .u64 0, .int .u64 0, .int .u64 0] (0, 0) _ rfl (by (with_reducible repeat (first | refine blk_drewN ?_ _ | refine blk_drew ?_ | refine blk_alloc ?_ _)); refine blk_put (cs := #[.int .u64 0, .int .u64 0, .int .u64 0, .int .u64 0]) ?_ 3 _ rfl; (with_reducible repeat (first | refine blk_drewN ?_ _ | refine blk_drew ?_ | refine blk_alloc ?_ _)); refine blk_put (cs := #[.int .u64 0, .int .u64 0, .int .u64 0, .int .u64 0]) ?_ 2 _ rfl; (with_reducible repeat (first | refine blk_drewN ?_ _ | refine blk_drew ?_ | refine blk_alloc ?_ _)); refine blk_put (cs := #[.int .u64 0, .int .u64 0, .int .u64 0, .int .u64 0]) ?_ 1 _ rfl; (with_reducible repeat (first | refine blk_drewN ?_ _ | refine blk_drew ?_ | refine blk_alloc ?_ _)); refine blk_put (cs := #[.int .u64 0, .int .u64 0, .int .u64 0, .int .u64 0]) ?_ 0 _ rfl; (with_reducible repeat (first | refine blk_drewN ?_ _ | refine blk_drew ?_ | refine blk_alloc ?_ _)); exact BK784.out) Try.underlying30 rfl (by kernel_rfl)) rfl ?_
      exact ⟨by first | rfl | (simp [errW_none, errW_some] <;> rfl) | (simp [*, errW_none, errW_some] <;> rfl), by repeat (first | (with_reducible first | exact HB.out | apply below_alloc | apply pw_below_drewN | apply below_drew1 | refine below_set ?_ GE784.out) | exact HB.out)⟩
    · rw [if_neg c7] at H
      have c7b0 : decide (8 < (l0.length : Int)) = false := decide_eq_false c7
      have c7b1 : decide (8 < l0.length) = false := decide_eq_false (by omega)
      clear c7
      by_cases c10 : (l0.length : Int) = 1
      · rw [if_pos c10] at H
        have c10b0 : ((l0.length : Int) == 1) = true := beq_iff_eq.mpr c10
        have c10b1 : ((l0.length : Int) != 1) = false := bne_eq_false_iff_eq.mpr c10
        clear c10
        by_cases c11 : 0 < (l0.length : Int)
        · rw [if_pos c11] at H
          have c11b0 : decide (0 < (l0.length : Int)) = true := decide_eq_true c11
          have c11b1 : decide (0 < l0.length) = true := decide_eq_true (by omega)
          clear c11
          simp only [Option.some.injEq, Prod.mk.injEq] at H
          obtain ⟨rfl, rfl, rfl, rfl⟩ := H
          go_enter Try.func71, Try.ntmps71
          go_wp2_with (first | ((with_reducible refine gate_dst (N := 2) rfl ?_); refine box_event ?hg (N := 2) ?hd (cs := #[.int .u64 0, .int .u64 0, .int .u64 0, .int .u64 0]) (t := 30) ?hr ?_; (case hd => rfl); (case hg => rfl); (case hr => first | (go_simp; done) | (go_simp; rfl)); intro gb784 hg w12 hbox hb; have n0_ := Aside0.mk (below_step (by repeat (first | (with_reducible first | exact HB.out | apply below_alloc | apply pw_below_drewN | apply below_drew1) | exact HB.out)) hb); have n1_ := Aside0.mk (hbox); have n2_ := Aside0.mk ((by rw [hg]; exact (below_size (by repeat (first | (with_reducible first | exact HB.out | apply below_alloc | apply pw_below_drewN | apply below_drew1) | exact HB.out))) : w.heap.size ≤ gb784)); have n3_ := Aside0.mk ((by rw [hg]; exact (below_size (by repeat (first | (with_reducible first | exact HB.out | apply below_alloc | apply pw_below_drewN | apply below_drew1) | exact HB.out))) : w.heap.size ≤ gb784)); clear HB; have HB := n0_; have BK784 := n1_; have GW784 := n2_; have GE784 := n3_; clear n0_ n1_ n2_ n3_; clear hb hbox hg; have p789 : 0 ≤ (0 : Int) := (by omega); have q789 : 0 < (l0.length : Int) := of_decide_eq_true (by first | (with_reducible assumption) | assumption); obtain ⟨ad789, e789, hx789_0, hx789_1, hx789_2, hx789_3⟩ := at_T30 HR0.out 0 p789 q789; cases e789; have qi789 : (0 < l0.length) = True := eq_true (by omega); (try rw [show ((0 : Int)).toNat = 0 from rfl] at hx789_0); (try rw [show 0 * 4 = 0 from rfl] at hx789_0); (try rw [Addr.add_zero'] at hx789_0); (try rw [show ((0 : Int)).toNat = 0 from rfl] at hx789_1); (try rw [show 0 * 4 = 0 from rfl] at hx789_1); (try rw [Addr.add_zero'] at hx789_1); (try rw [show ((0 : Int)).toNat = 0 from rfl] at hx789_2); (try rw [show 0 * 4 = 0 from rfl] at hx789_2); (try rw [Addr.add_zero'] at hx789_2); (try rw [show ((0 : Int)).toNat = 0 from rfl] at hx789_3); (try rw [show 0 * 4 = 0 from rfl] at hx789_3); (try rw [Addr.add_zero'] at hx789_3); replace hx789_0 := (HB.out.cell (World.block_lt_of_cell? w _ hx789_0)).trans hx789_0; replace hx789_1 := (HB.out.cell (World.block_lt_of_cell? w _ hx789_1)).trans hx789_1; replace hx789_2 := (HB.out.cell (World.block_lt_of_cell? w _ hx789_2)).trans hx789_2; replace hx789_3 := (HB.out.cell (World.block_lt_of_cell? w _ hx789_3)).trans hx789_3; replace p789 := eq_true p789; replace q789 := eq_true q789; have hcz13_0 : w12.cell? ⟨gb784, 0, none⟩ = some (.int .u64 0) := (blk_cell BK784.out 0).trans rfl; have hcz13_1 : w12.cell? ⟨gb784, 1, none⟩ = some (.int .u64 0) := (blk_cell BK784.out 1).trans rfl; have hcz13_2 : w12.cell? ⟨gb784, 2, none⟩ = some (.int .u64 0) := (blk_cell BK784.out 2).trans rfl; have hcz13_3 : w12.cell? ⟨gb784, 3, none⟩ = some (.int .u64 0) := (blk_cell BK784.out 3).trans rfl; have hfz13_0 := blk_frozen BK784.out 0; have hfz13_1 := blk_frozen BK784.out 1; have hfz13_2 := blk_frozen BK784.out 2; have hfz13_3 := blk_frozen BK784.out 3))
          refine bodyPost_ret (results_cell_row rfl _ _ gb784 30 #[.int .u64 ((rd_T30 l0 0).f0), .int .u64 ((rd_T30 l0 0).f1), .int .u64 ((rd_T30 l0 0).f2), .int .u64 ((rd_T30 l0 0).f3)] (0, 0) _ rfl (by (with_reducible repeat (first | refine blk_drewN ?_ _ | refine blk_drew ?_ | refine blk_alloc ?_ _)); refine blk_put (cs := #[.int .u64 ((rd_T30 l0 0).f0), .int .u64 ((rd_T30 l0 0).f1), .int .u64 ((rd_T30 l0 0).f2), .int .u64 0]) ?_ 3 _ rfl; (with_reducible repeat (first | refine blk_drewN ?_ _ | refine blk_drew ?_ | refine blk_alloc ?_ _)); refine blk_put (cs := #[.int .u64 ((rd_T30 l0 0).f0), .int .u64 ((rd_T30 l0 0).f1), .int .u64 0, .int .u64 0]) ?_ 2 _ rfl; (with_reducible repeat (first | refine blk_drewN ?_ _ | refine blk_drew ?_ | refine blk_alloc ?_ _)); refine blk_put (cs := #[.int .u64 ((rd_T30 l0 0).f0), .int .u64 0, .int .u64 0, .int .u64 0]) ?_ 1 _ rfl; (with_reducible repeat (first | refine blk_drewN ?_ _ | refine blk_drew ?_ | refine blk_alloc ?_ _)); refine blk_put (cs := #[.int .u64 0, .int .u64 0, .int .u64 0, .int .u64 0]) ?_ 0 _ rfl; (with_reducible repeat (first | refine blk_drewN ?_ _ | refine blk_drew ?_ | refine blk_alloc ?_ _)); exact BK784.out) Try.underlying30 rfl (by kernel_rfl)) rfl ?_
          exact ⟨by first | rfl | (simp [errW_none, errW_some] <;> rfl) | (simp [*, errW_none, errW_some] <;> rfl), by repeat (first | (with_reducible first | exact HB.out | apply below_alloc | apply pw_below_drewN | apply below_drew1 | refine below_set ?_ GE784.out) | exact HB.out)⟩
        · rw [if_neg c11] at H
          exact absurd H (by simp)
      · rw [if_neg c10] at H
        have c10b0 : ((l0.length : Int) == 1) = false := beq_eq_false_iff_ne.mpr c10
        have c10b1 : ((l0.length : Int) != 1) = true := bne_iff_ne.mpr c10
        by_cases c14 : 0 < (l0.length : Int)
        · rw [if_pos c14] at H
          have c14b0 : decide (0 < (l0.length : Int)) = true := decide_eq_true c14
          have c14b1 : decide (0 < l0.length) = true := decide_eq_true (by omega)
          clear c14
          by_cases c15 : 1 ≤ (l0.length : Int)
          · rw [if_pos c15] at H
            have c15b0 := eq_true c15
            have c15b1 : decide (1 ≤ (l0.length : Int)) = true := decide_eq_true c15
            clear c15
            obtain ⟨y791, hy791⟩ : ∃ y_ : List (S30), y_ = (l0.drop 1) := ⟨_, rfl⟩
            replace H : ((impl_PeaksRoot.f k y791).bind fun bt795 => ((impl_HashPair.f k ((rd_T30 l0 0).f0) ((rd_T30 l0 0).f1) ((rd_T30 l0 0).f2) ((rd_T30 l0 0).f3) bt795.1 bt795.2.1 bt795.2.2.1 bt795.2.2.2).bind fun bt799 => (some (bt799.1, bt799.2.1, bt799.2.2.1, bt799.2.2.2)))) = some (r1, r2, r3, r4) := by first | (rw [hy791]; with_reducible exact H) | (have H2_ := (Option.bind_some _ _).symm.trans H; rw [hy791]; with_reducible exact H2_) | (have H2_ := (Option.bind_some _ _).symm.trans H; with_reducible exact H2_) | with_reducible exact H | (rw [hy791]; exact H) | exact H
            have Ny791 := Aside0.mk hy791
            clear hy791
            replace H := Option.bind_eq_some_iff.mp H
            obtain ⟨⟨t795, t796, t797, t798⟩, A160, H⟩ := H
            replace H : ((impl_HashPair.f k ((rd_T30 l0 0).f0) ((rd_T30 l0 0).f1) ((rd_T30 l0 0).f2) ((rd_T30 l0 0).f3) t795 t796 t797 t798).bind fun bt799 => (some (bt799.1, bt799.2.1, bt799.2.2.1, bt799.2.2.2))) = some (r1, r2, r3, r4) := H
            have A16 := Aside0.mk A160
            clear A160
            replace H := Option.bind_eq_some_iff.mp H
            obtain ⟨⟨t799, t800, t801, t802⟩, A170, H⟩ := H
            replace H : (some (t799, t800, t801, t802)) = some (r1, r2, r3, r4) := H
            have A17 := Aside0.mk A170
            clear A170
            simp only [Option.some.injEq, Prod.mk.injEq] at H
            obtain ⟨rfl, rfl, rfl, rfl⟩ := H
            go_enter Try.func71, Try.ntmps71
            try go_wp2_with (first | ((with_reducible refine gate_dst (N := 2) rfl ?_); refine box_event ?hg (N := 2) ?hd (cs := #[.int .u64 0, .int .u64 0, .int .u64 0, .int .u64 0]) (t := 30) ?hr ?_; (case hd => rfl); (case hg => rfl); (case hr => first | (go_simp; done) | (go_simp; rfl)); intro gb784 hg w18 hbox hb; have n0_ := Aside0.mk (below_step (by repeat (first | (with_reducible first | exact HB.out | apply below_alloc | apply pw_below_drewN | apply below_drew1) | exact HB.out)) hb); have n1_ := Aside0.mk (hbox); have n2_ := Aside0.mk ((by rw [hg]; exact (below_size (by repeat (first | (with_reducible first | exact HB.out | apply below_alloc | apply pw_below_drewN | apply below_drew1) | exact HB.out))) : w.heap.size ≤ gb784)); have n3_ := Aside0.mk ((by rw [hg]; exact (below_size (by repeat (first | (with_reducible first | exact HB.out | apply below_alloc | apply pw_below_drewN | apply below_drew1) | exact HB.out))) : w.heap.size ≤ gb784)); clear HB; have HB := n0_; have BK784 := n1_; have GW784 := n2_; have GE784 := n3_; clear n0_ n1_ n2_ n3_; clear hb hbox hg))
            have n0_ := Aside0.mk (blk_drew BK784.out)
            have n1_ := Aside0.mk (below_drew1 HB.out)
            clear BK784
            clear HB
            have BK784 := n0_
            have HB := n1_
            clear n0_ n1_
            have p790 : 0 ≤ (0 : Int) := (by omega)
            have q790 : 0 < (l0.length : Int) := of_decide_eq_true (by first | (with_reducible assumption) | assumption)
            obtain ⟨ad790, e790, hx790_0, hx790_1, hx790_2, hx790_3⟩ := at_T30 HR0.out 0 p790 q790
            have hw790_3 := hx790_3
            (try rw [show ((0 : Int)).toNat = 0 from rfl] at hw790_3)
            (try rw [show 0 * 4 = 0 from rfl] at hw790_3)
            (try rw [Addr.add_zero'] at hw790_3)
            have hw790_2 := hx790_2
            (try rw [show ((0 : Int)).toNat = 0 from rfl] at hw790_2)
            (try rw [show 0 * 4 = 0 from rfl] at hw790_2)
            (try rw [Addr.add_zero'] at hw790_2)
            have hw790_1 := hx790_1
            (try rw [show ((0 : Int)).toNat = 0 from rfl] at hw790_1)
            (try rw [show 0 * 4 = 0 from rfl] at hw790_1)
            (try rw [Addr.add_zero'] at hw790_1)
            have hw790_0 := hx790_0
            (try rw [show ((0 : Int)).toNat = 0 from rfl] at hw790_0)
            (try rw [show 0 * 4 = 0 from rfl] at hw790_0)
            (try rw [Addr.add_zero'] at hw790_0)
            cases e790
            have qi790 : (0 < l0.length) = True := eq_true (by omega)
            (try rw [show ((0 : Int)).toNat = 0 from rfl] at hx790_0)
            (try rw [show 0 * 4 = 0 from rfl] at hx790_0)
            (try rw [Addr.add_zero'] at hx790_0)
            (try rw [show ((0 : Int)).toNat = 0 from rfl] at hx790_1)
            (try rw [show 0 * 4 = 0 from rfl] at hx790_1)
            (try rw [Addr.add_zero'] at hx790_1)
            (try rw [show ((0 : Int)).toNat = 0 from rfl] at hx790_2)
            (try rw [show 0 * 4 = 0 from rfl] at hx790_2)
            (try rw [Addr.add_zero'] at hx790_2)
            (try rw [show ((0 : Int)).toNat = 0 from rfl] at hx790_3)
            (try rw [show 0 * 4 = 0 from rfl] at hx790_3)
            (try rw [Addr.add_zero'] at hx790_3)
            replace hx790_0 := (HB.out.cell (World.block_lt_of_cell? w _ hx790_0)).trans hx790_0
            replace hx790_1 := (HB.out.cell (World.block_lt_of_cell? w _ hx790_1)).trans hx790_1
            replace hx790_2 := (HB.out.cell (World.block_lt_of_cell? w _ hx790_2)).trans hx790_2
            replace hx790_3 := (HB.out.cell (World.block_lt_of_cell? w _ hx790_3)).trans hx790_3
            replace p790 := eq_true p790
            replace q790 := eq_true q790
            have q20 : (1 : Int) ≤ ((l0.length : Int) : Int) := of_decide_eq_true (by first | (with_reducible assumption) | assumption)
            obtain ⟨i020, hi020, _, hsz20, _⟩ := info_parts info30
            have hroom20 : l0.length ≤ c0 := HC0.out
            have hC20 : Kd.C k30 _ (some ad790) l0.length l0 := HR0.out
            have hcut20 := cut_from (P := Try.prog) 69 30 .i64 Try.underlying69 hi020 4 hsz20 (some ad790) l0.length c0 1 (by omega) q20
            have hr20 := Kd.C_drop (m := (1 : Int).toNat) (c := c0) hC20 (by omega) hroom20
            obtain ⟨A20, hA20⟩ : ∃ A1, A1 = (if c0 = (1 : Int).toNat then (some ad790) else ((some ad790) : Option Addr).map (·.add ((1 : Int).toNat * 4))) := ⟨_, rfl⟩
            obtain ⟨c20, hc20⟩ : ∃ c1, c1 = c0 - (1 : Int).toNat := ⟨_, rfl⟩
            have hy20 : y791.length = l0.length - (1 : Int).toNat := (by rw [Ny791.out, List.length_drop] <;> omega)
            rw [show (l0).drop (1 : Int).toNat = y791 from Ny791.out.symm] at hr20
            replace hr20 : Kd.C k30 _ A20 y791.length y791 := (by rw [hA20]; exact hr20)
            rw [← hy20, ← hA20, ← hc20] at hcut20
            have HR794 := Aside0.mk hr20
            have HC794 := Aside0.mk (show y791.length ≤ c20 from by rw [hy20, hc20]; exact Nat.sub_le_sub_right hroom20 _)
            clear hr20 hC20 hroom20 hi020 hsz20 hc20
            have KY20 := Aside0.mk hy20
            have KA20 := Aside0.mk hA20
            clear hy20 hA20
            replace q20 := eq_true q20
            refine start_ (n := 8) (S := fun w' => w'.cell? ad790 = some (.int .u64 ((rd_T30 l0 0).f0)) ∧ w'.cell? ⟨ad790.block, ad790.off + 1, none⟩ = some (.int .u64 ((rd_T30 l0 0).f1)) ∧ w'.cell? ⟨ad790.block, ad790.off + 2, none⟩ = some (.int .u64 ((rd_T30 l0 0).f2)) ∧ w'.cell? ⟨ad790.block, ad790.off + 3, none⟩ = some (.int .u64 ((rd_T30 l0 0).f3))) (ds := []) #[false, false, false, false, false, false, false, false] (by kernel_rfl) rfl rfl ⟨((HB.out.cell (World.block_lt_of_cell? w _ hw790_0)).trans hw790_0), ((HB.out.cell (World.block_lt_of_cell? w _ hw790_1)).trans hw790_1), ((HB.out.cell (World.block_lt_of_cell? w _ hw790_2)).trans hw790_2), ((HB.out.cell (World.block_lt_of_cell? w _ hw790_3)).trans hw790_3)⟩ (fun hHeld => ?_); refine with_tabW impl_PeaksRoot.tab7 impl_PeaksRoot.bits7 (fun HT_ HW_ => ?_)
            generalize w18.drew = w19 at BK784 HB HR794 hx790_0 hx790_1 hx790_2 hx790_3 hHeld ⊢
            refine pure_ (i := 0) (N := some 20) (v := ?_) (a' := ?_) #[true, false, false, false, false, false, false, false] rfl rfl (any_of HT_.out (by kernel_rfl)) (fun _ _ _ h => h) (Or.inl ⟨by rfl, ?_⟩) ?_ ?_
            rotate_left
            · intro w'
              go_simp
              with_reducible rfl
            rotate_left
            · simp only [Act.put, List.setIfInBounds_toArray, List.set_cons_zero, List.set_cons_succ, i64_w, i32_w]
              rfl
            refine pure_ (i := 1) (N := some 21) (v := ?_) (a' := ?_) #[true, true, false, false, false, false, false, false] rfl rfl (any_of HT_.out (by kernel_rfl)) (fun _ _ _ h => h) (Or.inl ⟨by rfl, ?_⟩) ?_ ?_
            rotate_left
            · intro w'
              go_simp
              with_reducible rfl
            rotate_left
            · simp only [Act.put, List.setIfInBounds_toArray, List.set_cons_zero, List.set_cons_succ, i64_w, i32_w]
              rfl
            refine pure_ (i := 3) (N := some 23) (v := ?_) (a' := ?_) #[true, true, false, true, false, false, false, false] rfl rfl (any_of HT_.out (by kernel_rfl)) (fun _ _ _ h => h) (Or.inl ⟨by rfl, ?_⟩) ?_ ?_
            rotate_left
            · intro w'
              go_simp
              with_reducible rfl
            rotate_left
            · simp only [Act.put, List.setIfInBounds_toArray, List.set_cons_zero, List.set_cons_succ, i64_w, i32_w]
              rfl
            refine pure_ (i := 4) (N := some 24) (v := ?_) (a' := ?_) #[true, true, false, true, true, false, false, false] rfl rfl (any_of HT_.out (by kernel_rfl)) (fun _ _ _ h => h) (Or.inl ⟨by rfl, ?_⟩) ?_ ?_
            rotate_left
            · intro w'
              go_simp
              with_reducible rfl
            rotate_left
            · simp only [Act.put, List.setIfInBounds_toArray, List.set_cons_zero, List.set_cons_succ, i64_w, i32_w]
              rfl
            refine take_ (i := 2) (N := some 22) (v := ?_) (a' := ?_) #[true, true, true, true, true, false, false, false] rfl rfl (take_ofW HT_.out HW_.out (by kernel_rfl)) (fun _ _ _ h => h) (Or.inl ⟨by rfl, ?_⟩) hHeld ?_ ?_
            rotate_left
            · rintro w' ⟨s0, s1, s2, s3⟩
              go_simp
              with_reducible rfl
            rotate_left
            · simp only [Act.put, List.setIfInBounds_toArray, List.set_cons_zero, List.set_cons_succ, i64_w, i32_w]
              rfl
            refine one_ (i := 5) (N := some 25) #[true, true, true, true, true, true, false, false] rfl rfl (one_of HT_.out (by kernel_rfl)) (by decide) (fun K hK => ?_)
            refine goes_ Try.func71 (by kernel_rfl) rfl #[.slice A20 y791.length c20] (by rfl) rfl rfl (by (try simp only [List.map_toArray, List.map_cons, List.map_nil]); first | done | rfl | (simp only [List.length_drop, List.length_take]; rfl)) ?_
            with_reducible refine (ih k (by omega) _ _ y791 t795 t796 t797 t798 _ ?side1 ?side2 A16.out).mono ?_
            (case side1 => repeat (first | exact (Kd.C_below HR794.out HB.out) | (with_reducible refine Kd.C_alloc ?_ _) | (with_reducible refine Kd.C_drewN ?_ _) | (with_reducible refine Kd.C_drew ?_)))
            (case side2 => exact HC794.out)
            rintro e w21 ⟨rfl, hb⟩
            refine ⟨_, rfl, ?_⟩
            have n0_ := Aside0.mk (blk_below (g := gb784) (o := .cells #[.int .u64 0, .int .u64 0, .int .u64 0, .int .u64 0] 30 (0, 0)) (by (with_reducible repeat (first | refine blk_drewN ?_ _ | refine blk_drew ?_ | refine blk_alloc ?_ _)); exact BK784.out) hb)
            have n1_ := Aside0.mk (below_step (by repeat (first | (with_reducible first | exact HB.out | apply below_alloc | apply pw_below_drewN | apply below_drew1 | refine below_set ?_ GE784.out) | exact HB.out)) hb)
            clear BK784
            clear HB
            have BK784 := n0_
            have HB := n1_
            clear n0_ n1_
            (try clear hb)
            (try clear hb2)
            (try clear hk)
            (try clear hi)
            refine hK.out _ _ ⟨((HB.out.cell (World.block_lt_of_cell? w _ hw790_0)).trans hw790_0), ((HB.out.cell (World.block_lt_of_cell? w _ hw790_1)).trans hw790_1), ((HB.out.cell (World.block_lt_of_cell? w _ hw790_2)).trans hw790_2), ((HB.out.cell (World.block_lt_of_cell? w _ hw790_3)).trans hw790_3)⟩ (fun hHeld => ?_)
            clear hK K
            refine norm_ (a' := ?_) ?_ ?_
            rotate_left
            · show Act.put _ (some 25) _ = _
              simp only [Act.put, List.setIfInBounds_toArray, List.set_cons_zero, List.set_cons_succ, i64_w, i32_w]
              rfl
            refine one_ (i := 6) (N := some 26) #[true, true, true, true, true, true, true, false] rfl rfl (one_of HT_.out (by kernel_rfl)) (by decide) (fun K hK => ?_)
            refine goes_ Try.func61 (by kernel_rfl) rfl #[.agg #[.int .u64 ((rd_T30 l0 0).f0), .int .u64 ((rd_T30 l0 0).f1), .int .u64 ((rd_T30 l0 0).f2), .int .u64 ((rd_T30 l0 0).f3)], .agg #[.int .u64 t795, .int .u64 t796, .int .u64 t797, .int .u64 t798]] (by rfl) rfl rfl (by (try simp only [List.map_toArray, List.map_cons, List.map_nil]); first | done | rfl | (simp only [List.length_drop, List.length_take]; rfl)) ?_
            with_reducible refine (impl_HashPair.calls k ((rd_T30 l0 0).f0) ((rd_T30 l0 0).f1) ((rd_T30 l0 0).f2) ((rd_T30 l0 0).f3) t795 t796 t797 t798 t799 t800 t801 t802 _ A17.out).mono ?_
            rintro e w22 ⟨rfl, hb⟩
            refine ⟨_, rfl, ?_⟩
            have n0_ := Aside0.mk (blk_below (g := gb784) (o := .cells #[.int .u64 0, .int .u64 0, .int .u64 0, .int .u64 0] 30 (0, 0)) (by (with_reducible repeat (first | refine blk_drewN ?_ _ | refine blk_drew ?_ | refine blk_alloc ?_ _)); exact BK784.out) hb)
            have n1_ := Aside0.mk (below_step (by repeat (first | (with_reducible first | exact HB.out | apply below_alloc | apply pw_below_drewN | apply below_drew1 | refine below_set ?_ GE784.out) | exact HB.out)) hb)
            clear BK784
            clear HB
            have BK784 := n0_
            have HB := n1_
            clear n0_ n1_
            (try clear hb)
            (try clear hb2)
            (try clear hk)
            (try clear hi)
            refine hK.out _ _ ⟨((HB.out.cell (World.block_lt_of_cell? w _ hw790_0)).trans hw790_0), ((HB.out.cell (World.block_lt_of_cell? w _ hw790_1)).trans hw790_1), ((HB.out.cell (World.block_lt_of_cell? w _ hw790_2)).trans hw790_2), ((HB.out.cell (World.block_lt_of_cell? w _ hw790_3)).trans hw790_3)⟩ (fun hHeld => ?_)
            clear hK K
            refine norm_ (a' := ?_) ?_ ?_
            rotate_left
            · show Act.put _ (some 26) _ = _
              simp only [Act.put, List.setIfInBounds_toArray, List.set_cons_zero, List.set_cons_succ, i64_w, i32_w]
              rfl
            refine one_ (i := 7) (N := none) #[true, true, true, true, true, true, true, true] rfl rfl (one_of HT_.out (by kernel_rfl)) (by decide) (fun K hK => ?_)
            have hs23 : w22.cell? ⟨gb784, 0, none⟩ = some (.int .u64 0) := (blk_cell BK784.out 0).trans rfl
            have hfs23 := blk_frozen BK784.out 0
            have hs24 : w22.cell? ⟨gb784, 1, none⟩ = some (.int .u64 0) := (blk_cell BK784.out 1).trans rfl
            have hfs24 := blk_frozen BK784.out 1
            have hs25 : w22.cell? ⟨gb784, 2, none⟩ = some (.int .u64 0) := (blk_cell BK784.out 2).trans rfl
            have hfs25 := blk_frozen BK784.out 2
            have hs26 : w22.cell? ⟨gb784, 3, none⟩ = some (.int .u64 0) := (blk_cell BK784.out 3).trans rfl
            have hfs26 := blk_frozen BK784.out 3
            refine skip_ (w1 := ?_) (by rfl) rfl ?_ ?_
            rotate_left
            · go_simp
              rfl
            refine hK.out _ _ ⟨((cell_far (p := ⟨gb784, _, none⟩) (by first | exact Nat.ne_of_lt (Nat.lt_of_lt_of_le (by have := World.block_lt_of_cell? _ _ hw790_0; first | rwa [add_block] at this | exact this) GW784.out) | (rw [add_block]; exact Nat.ne_of_lt (Nat.lt_of_lt_of_le (by have := World.block_lt_of_cell? _ _ hw790_0; first | rwa [add_block] at this | exact this) GW784.out)) | (show (Addr.add _ _).block ≠ _; rw [add_block]; exact Nat.ne_of_lt (Nat.lt_of_lt_of_le (by have := World.block_lt_of_cell? _ _ hw790_0; first | rwa [add_block] at this | exact this) GW784.out)) | (dsimp only; exact Nat.ne_of_lt (Nat.lt_of_lt_of_le (by have := World.block_lt_of_cell? _ _ hw790_0; first | rwa [add_block] at this | exact this) GW784.out))) _).trans (((cell_far (p := ⟨gb784, _, none⟩) (by first | exact Nat.ne_of_lt (Nat.lt_of_lt_of_le (by have := World.block_lt_of_cell? _ _ hw790_0; first | rwa [add_block] at this | exact this) GW784.out) | (rw [add_block]; exact Nat.ne_of_lt (Nat.lt_of_lt_of_le (by have := World.block_lt_of_cell? _ _ hw790_0; first | rwa [add_block] at this | exact this) GW784.out)) | (show (Addr.add _ _).block ≠ _; rw [add_block]; exact Nat.ne_of_lt (Nat.lt_of_lt_of_le (by have := World.block_lt_of_cell? _ _ hw790_0; first | rwa [add_block] at this | exact this) GW784.out)) | (dsimp only; exact Nat.ne_of_lt (Nat.lt_of_lt_of_le (by have := World.block_lt_of_cell? _ _ hw790_0; first | rwa [add_block] at this | exact this) GW784.out))) _).trans (((cell_far (p := ⟨gb784, _, none⟩) (by first | exact Nat.ne_of_lt (Nat.lt_of_lt_of_le (by have := World.block_lt_of_cell? _ _ hw790_0; first | rwa [add_block] at this | exact this) GW784.out) | (rw [add_block]; exact Nat.ne_of_lt (Nat.lt_of_lt_of_le (by have := World.block_lt_of_cell? _ _ hw790_0; first | rwa [add_block] at this | exact this) GW784.out)) | (show (Addr.add _ _).block ≠ _; rw [add_block]; exact Nat.ne_of_lt (Nat.lt_of_lt_of_le (by have := World.block_lt_of_cell? _ _ hw790_0; first | rwa [add_block] at this | exact this) GW784.out)) | (dsimp only; exact Nat.ne_of_lt (Nat.lt_of_lt_of_le (by have := World.block_lt_of_cell? _ _ hw790_0; first | rwa [add_block] at this | exact this) GW784.out))) _).trans (((cell_far (p := ⟨gb784, _, none⟩) (by first | exact Nat.ne_of_lt (Nat.lt_of_lt_of_le (by have := World.block_lt_of_cell? _ _ hw790_0; first | rwa [add_block] at this | exact this) GW784.out) | (rw [add_block]; exact Nat.ne_of_lt (Nat.lt_of_lt_of_le (by have := World.block_lt_of_cell? _ _ hw790_0; first | rwa [add_block] at this | exact this) GW784.out)) | (show (Addr.add _ _).block ≠ _; rw [add_block]; exact Nat.ne_of_lt (Nat.lt_of_lt_of_le (by have := World.block_lt_of_cell? _ _ hw790_0; first | rwa [add_block] at this | exact this) GW784.out)) | (dsimp only; exact Nat.ne_of_lt (Nat.lt_of_lt_of_le (by have := World.block_lt_of_cell? _ _ hw790_0; first | rwa [add_block] at this | exact this) GW784.out))) _).trans (hHeld.1)))))))), ((cell_far (p := ⟨gb784, _, none⟩) (by first | exact Nat.ne_of_lt (Nat.lt_of_lt_of_le (by have := World.block_lt_of_cell? _ _ hw790_1; first | rwa [add_block] at this | exact this) GW784.out) | (rw [add_block]; exact Nat.ne_of_lt (Nat.lt_of_lt_of_le (by have := World.block_lt_of_cell? _ _ hw790_1; first | rwa [add_block] at this | exact this) GW784.out)) | (show (Addr.add _ _).block ≠ _; rw [add_block]; exact Nat.ne_of_lt (Nat.lt_of_lt_of_le (by have := World.block_lt_of_cell? _ _ hw790_1; first | rwa [add_block] at this | exact this) GW784.out)) | (dsimp only; exact Nat.ne_of_lt (Nat.lt_of_lt_of_le (by have := World.block_lt_of_cell? _ _ hw790_1; first | rwa [add_block] at this | exact this) GW784.out))) _).trans (((cell_far (p := ⟨gb784, _, none⟩) (by first | exact Nat.ne_of_lt (Nat.lt_of_lt_of_le (by have := World.block_lt_of_cell? _ _ hw790_1; first | rwa [add_block] at this | exact this) GW784.out) | (rw [add_block]; exact Nat.ne_of_lt (Nat.lt_of_lt_of_le (by have := World.block_lt_of_cell? _ _ hw790_1; first | rwa [add_block] at this | exact this) GW784.out)) | (show (Addr.add _ _).block ≠ _; rw [add_block]; exact Nat.ne_of_lt (Nat.lt_of_lt_of_le (by have := World.block_lt_of_cell? _ _ hw790_1; first | rwa [add_block] at this | exact this) GW784.out)) | (dsimp only; exact Nat.ne_of_lt (Nat.lt_of_lt_of_le (by have := World.block_lt_of_cell? _ _ hw790_1; first | rwa [add_block] at this | exact this) GW784.out))) _).trans (((cell_far (p := ⟨gb784, _, none⟩) (by first | exact Nat.ne_of_lt (Nat.lt_of_lt_of_le (by have := World.block_lt_of_cell? _ _ hw790_1; first | rwa [add_block] at this | exact this) GW784.out) | (rw [add_block]; exact Nat.ne_of_lt (Nat.lt_of_lt_of_le (by have := World.block_lt_of_cell? _ _ hw790_1; first | rwa [add_block] at this | exact this) GW784.out)) | (show (Addr.add _ _).block ≠ _; rw [add_block]; exact Nat.ne_of_lt (Nat.lt_of_lt_of_le (by have := World.block_lt_of_cell? _ _ hw790_1; first | rwa [add_block] at this | exact this) GW784.out)) | (dsimp only; exact Nat.ne_of_lt (Nat.lt_of_lt_of_le (by have := World.block_lt_of_cell? _ _ hw790_1; first | rwa [add_block] at this | exact this) GW784.out))) _).trans (((cell_far (p := ⟨gb784, _, none⟩) (by first | exact Nat.ne_of_lt (Nat.lt_of_lt_of_le (by have := World.block_lt_of_cell? _ _ hw790_1; first | rwa [add_block] at this | exact this) GW784.out) | (rw [add_block]; exact Nat.ne_of_lt (Nat.lt_of_lt_of_le (by have := World.block_lt_of_cell? _ _ hw790_1; first | rwa [add_block] at this | exact this) GW784.out)) | (show (Addr.add _ _).block ≠ _; rw [add_block]; exact Nat.ne_of_lt (Nat.lt_of_lt_of_le (by have := World.block_lt_of_cell? _ _ hw790_1; first | rwa [add_block] at this | exact this) GW784.out)) | (dsimp only; exact Nat.ne_of_lt (Nat.lt_of_lt_of_le (by have := World.block_lt_of_cell? _ _ hw790_1; first | rwa [add_block] at this | exact this) GW784.out))) _).trans (hHeld.2.1)))))))), ((cell_far (p := ⟨gb784, _, none⟩) (by first | exact Nat.ne_of_lt (Nat.lt_of_lt_of_le (by have := World.block_lt_of_cell? _ _ hw790_2; first | rwa [add_block] at this | exact this) GW784.out) | (rw [add_block]; exact Nat.ne_of_lt (Nat.lt_of_lt_of_le (by have := World.block_lt_of_cell? _ _ hw790_2; first | rwa [add_block] at this | exact this) GW784.out)) | (show (Addr.add _ _).block ≠ _; rw [add_block]; exact Nat.ne_of_lt (Nat.lt_of_lt_of_le (by have := World.block_lt_of_cell? _ _ hw790_2; first | rwa [add_block] at this | exact this) GW784.out)) | (dsimp only; exact Nat.ne_of_lt (Nat.lt_of_lt_of_le (by have := World.block_lt_of_cell? _ _ hw790_2; first | rwa [add_block] at this | exact this) GW784.out))) _).trans (((cell_far (p := ⟨gb784, _, none⟩) (by first | exact Nat.ne_of_lt (Nat.lt_of_lt_of_le (by have := World.block_lt_of_cell? _ _ hw790_2; first | rwa [add_block] at this | exact this) GW784.out) | (rw [add_block]; exact Nat.ne_of_lt (Nat.lt_of_lt_of_le (by have := World.block_lt_of_cell? _ _ hw790_2; first | rwa [add_block] at this | exact this) GW784.out)) | (show (Addr.add _ _).block ≠ _; rw [add_block]; exact Nat.ne_of_lt (Nat.lt_of_lt_of_le (by have := World.block_lt_of_cell? _ _ hw790_2; first | rwa [add_block] at this | exact this) GW784.out)) | (dsimp only; exact Nat.ne_of_lt (Nat.lt_of_lt_of_le (by have := World.block_lt_of_cell? _ _ hw790_2; first | rwa [add_block] at this | exact this) GW784.out))) _).trans (((cell_far (p := ⟨gb784, _, none⟩) (by first | exact Nat.ne_of_lt (Nat.lt_of_lt_of_le (by have := World.block_lt_of_cell? _ _ hw790_2; first | rwa [add_block] at this | exact this) GW784.out) | (rw [add_block]; exact Nat.ne_of_lt (Nat.lt_of_lt_of_le (by have := World.block_lt_of_cell? _ _ hw790_2; first | rwa [add_block] at this | exact this) GW784.out)) | (show (Addr.add _ _).block ≠ _; rw [add_block]; exact Nat.ne_of_lt (Nat.lt_of_lt_of_le (by have := World.block_lt_of_cell? _ _ hw790_2; first | rwa [add_block] at this | exact this) GW784.out)) | (dsimp only; exact Nat.ne_of_lt (Nat.lt_of_lt_of_le (by have := World.block_lt_of_cell? _ _ hw790_2; first | rwa [add_block] at this | exact this) GW784.out))) _).trans (((cell_far (p := ⟨gb784, _, none⟩) (by first | exact Nat.ne_of_lt (Nat.lt_of_lt_of_le (by have := World.block_lt_of_cell? _ _ hw790_2; first | rwa [add_block] at this | exact this) GW784.out) | (rw [add_block]; exact Nat.ne_of_lt (Nat.lt_of_lt_of_le (by have := World.block_lt_of_cell? _ _ hw790_2; first | rwa [add_block] at this | exact this) GW784.out)) | (show (Addr.add _ _).block ≠ _; rw [add_block]; exact Nat.ne_of_lt (Nat.lt_of_lt_of_le (by have := World.block_lt_of_cell? _ _ hw790_2; first | rwa [add_block] at this | exact this) GW784.out)) | (dsimp only; exact Nat.ne_of_lt (Nat.lt_of_lt_of_le (by have := World.block_lt_of_cell? _ _ hw790_2; first | rwa [add_block] at this | exact this) GW784.out))) _).trans (hHeld.2.2.1)))))))), ((cell_far (p := ⟨gb784, _, none⟩) (by first | exact Nat.ne_of_lt (Nat.lt_of_lt_of_le (by have := World.block_lt_of_cell? _ _ hw790_3; first | rwa [add_block] at this | exact this) GW784.out) | (rw [add_block]; exact Nat.ne_of_lt (Nat.lt_of_lt_of_le (by have := World.block_lt_of_cell? _ _ hw790_3; first | rwa [add_block] at this | exact this) GW784.out)) | (show (Addr.add _ _).block ≠ _; rw [add_block]; exact Nat.ne_of_lt (Nat.lt_of_lt_of_le (by have := World.block_lt_of_cell? _ _ hw790_3; first | rwa [add_block] at this | exact this) GW784.out)) | (dsimp only; exact Nat.ne_of_lt (Nat.lt_of_lt_of_le (by have := World.block_lt_of_cell? _ _ hw790_3; first | rwa [add_block] at this | exact this) GW784.out))) _).trans (((cell_far (p := ⟨gb784, _, none⟩) (by first | exact Nat.ne_of_lt (Nat.lt_of_lt_of_le (by have := World.block_lt_of_cell? _ _ hw790_3; first | rwa [add_block] at this | exact this) GW784.out) | (rw [add_block]; exact Nat.ne_of_lt (Nat.lt_of_lt_of_le (by have := World.block_lt_of_cell? _ _ hw790_3; first | rwa [add_block] at this | exact this) GW784.out)) | (show (Addr.add _ _).block ≠ _; rw [add_block]; exact Nat.ne_of_lt (Nat.lt_of_lt_of_le (by have := World.block_lt_of_cell? _ _ hw790_3; first | rwa [add_block] at this | exact this) GW784.out)) | (dsimp only; exact Nat.ne_of_lt (Nat.lt_of_lt_of_le (by have := World.block_lt_of_cell? _ _ hw790_3; first | rwa [add_block] at this | exact this) GW784.out))) _).trans (((cell_far (p := ⟨gb784, _, none⟩) (by first | exact Nat.ne_of_lt (Nat.lt_of_lt_of_le (by have := World.block_lt_of_cell? _ _ hw790_3; first | rwa [add_block] at this | exact this) GW784.out) | (rw [add_block]; exact Nat.ne_of_lt (Nat.lt_of_lt_of_le (by have := World.block_lt_of_cell? _ _ hw790_3; first | rwa [add_block] at this | exact this) GW784.out)) | (show (Addr.add _ _).block ≠ _; rw [add_block]; exact Nat.ne_of_lt (Nat.lt_of_lt_of_le (by have := World.block_lt_of_cell? _ _ hw790_3; first | rwa [add_block] at this | exact this) GW784.out)) | (dsimp only; exact Nat.ne_of_lt (Nat.lt_of_lt_of_le (by have := World.block_lt_of_cell? _ _ hw790_3; first | rwa [add_block] at this | exact this) GW784.out))) _).trans (((cell_far (p := ⟨gb784, _, none⟩) (by first | exact Nat.ne_of_lt (Nat.lt_of_lt_of_le (by have := World.block_lt_of_cell? _ _ hw790_3; first | rwa [add_block] at this | exact this) GW784.out) | (rw [add_block]; exact Nat.ne_of_lt (Nat.lt_of_lt_of_le (by have := World.block_lt_of_cell? _ _ hw790_3; first | rwa [add_block] at this | exact this) GW784.out)) | (show (Addr.add _ _).block ≠ _; rw [add_block]; exact Nat.ne_of_lt (Nat.lt_of_lt_of_le (by have := World.block_lt_of_cell? _ _ hw790_3; first | rwa [add_block] at this | exact this) GW784.out)) | (dsimp only; exact Nat.ne_of_lt (Nat.lt_of_lt_of_le (by have := World.block_lt_of_cell? _ _ hw790_3; first | rwa [add_block] at this | exact this) GW784.out))) _).trans (hHeld.2.2.2))))))))⟩ (fun hHeld => ?_)
            clear hK K
            refine done_ (done_of HT_.out (by kernel_rfl)) ?_
            try go_wp2
            refine bodyPost_ret (results_cell_row rfl _ _ gb784 30 #[.int .u64 t799, .int .u64 t800, .int .u64 t801, .int .u64 t802] (0, 0) _ rfl (by (with_reducible repeat (first | refine blk_drewN ?_ _ | refine blk_drew ?_ | refine blk_alloc ?_ _)); refine blk_put (cs := #[.int .u64 t799, .int .u64 t800, .int .u64 t801, .int .u64 0]) ?_ 3 _ rfl; (with_reducible repeat (first | refine blk_drewN ?_ _ | refine blk_drew ?_ | refine blk_alloc ?_ _)); refine blk_put (cs := #[.int .u64 t799, .int .u64 t800, .int .u64 0, .int .u64 0]) ?_ 2 _ rfl; (with_reducible repeat (first | refine blk_drewN ?_ _ | refine blk_drew ?_ | refine blk_alloc ?_ _)); refine blk_put (cs := #[.int .u64 t799, .int .u64 0, .int .u64 0, .int .u64 0]) ?_ 1 _ rfl; (with_reducible repeat (first | refine blk_drewN ?_ _ | refine blk_drew ?_ | refine blk_alloc ?_ _)); refine blk_put (cs := #[.int .u64 0, .int .u64 0, .int .u64 0, .int .u64 0]) ?_ 0 _ rfl; (with_reducible repeat (first | refine blk_drewN ?_ _ | refine blk_drew ?_ | refine blk_alloc ?_ _)); exact BK784.out) Try.underlying30 rfl (by kernel_rfl)) rfl ?_
            exact ⟨by first | rfl | (simp [errW_none, errW_some] <;> rfl) | (simp [*, errW_none, errW_some] <;> rfl), by repeat (first | (with_reducible first | exact HB.out | apply below_alloc | apply pw_below_drewN | apply below_drew1 | refine below_set ?_ GE784.out) | exact HB.out)⟩
          · rw [if_neg c15] at H
            exact absurd H (by simp)
        · rw [if_neg c14] at H
          exact absurd H (by simp)

end Go.Proofs.Ytfbhlofifodkjaa.B
