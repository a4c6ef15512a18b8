/- What the Go functions loop.example/belfry/spec.l3Up, loop.example/belfry/spec.PathRoot, loop.example/belfry/impl.pathOk do is what the Lean functions .f of their names here say; condition: .f gives an answer. (Written by the session's program pp.py over the kit's print; Lean checks it.) -/
import Derived.Test.YtemfciflhbhobaaK
import Derived.Test.YtemfciflhbhobaaM
import Derived.Test.YtemfciflhbhobaaGSpecPair1
import Derived.Test.YtemfciflhbhobaaGSplit1
import Derived.Test.YtemfciflhbhobaaGWay1
namespace Go.Proofs.Ytemfciflhbhobaa.B
open Go.RowKit Go.Proofs.YtemfciflhbhobaaW.PrintWords Go.Proofs.YtemfciflhbhobaaW.PrintLast Go.Proofs.YtemfciflhbhobaaW.PrintMore
attribute [local go_sem] max2_int min2_int max_two min_two max_three min_three max_four min_four   -- for this text's walks alone
set_option linter.unusedVariables false
set_option linter.unusedSimpArgs false

section
/-! ### spec_l3Up: function 101 -/
def spec_l3Up.f : Nat → Int → Int → Int → Int → Int → Int → List (S29) → Option (Int × Int × Int × Int)
  | 0, _, _, _, _, _, _, _ => none
  | k + 1, a0, a1, a2_0, a2_1, a2_2, a2_3, l3 => if a0 < 2 then (some (a2_0, a2_1, a2_2, a2_3)) else ((spec_TreeSplit.f k a0).bind fun t496 => (if 0 ≤ (wrap64 ((l3.length : Int) - 1)) then (if (wrap64 ((l3.length : Int) - 1)) < (l3.length : Int) then (if (wrap64 ((l3.length : Int) - 1)) ≤ (l3.length : Int) then ((some (l3.take ((wrap64 ((l3.length : Int) - 1)) : Int).toNat : List (S29))).bind fun y499 => (if a1 < t496 then ((spec_l3Up.f k t496 a1 a2_0 a2_1 a2_2 a2_3 y499).bind fun bt503 => ((spec_HashPair.f k bt503.1 bt503.2.1 bt503.2.2.1 bt503.2.2.2 ((rd_T29 l3 (wrap64 ((l3.length : Int) - 1))).f0) ((rd_T29 l3 (wrap64 ((l3.length : Int) - 1))).f1) ((rd_T29 l3 (wrap64 ((l3.length : Int) - 1))).f2) ((rd_T29 l3 (wrap64 ((l3.length : Int) - 1))).f3)).bind fun bt507 => (some (bt507.1, bt507.2.1, bt507.2.2.1, bt507.2.2.2)))) else ((spec_l3Up.f k (wrap64 (a0 - t496)) (wrap64 (a1 - t496)) a2_0 a2_1 a2_2 a2_3 y499).bind fun bt511 => ((spec_HashPair.f k ((rd_T29 l3 (wrap64 ((l3.length : Int) - 1))).f0) ((rd_T29 l3 (wrap64 ((l3.length : Int) - 1))).f1) ((rd_T29 l3 (wrap64 ((l3.length : Int) - 1))).f2) ((rd_T29 l3 (wrap64 ((l3.length : Int) - 1))).f3) bt511.1 bt511.2.1 bt511.2.2.1 bt511.2.2.2).bind fun bt515 => (some (bt515.1, bt515.2.1, bt515.2.2.1, bt515.2.2.2)))))) else (none)) else (none)) else (none)))
theorem spec_l3Up.mono_l : ∀ k, (∀ y0 y1 y2 y3 y4 y5 y6, LeO (spec_l3Up.f k y0 y1 y2 y3 y4 y5 y6) (spec_l3Up.f (k + 1) y0 y1 y2 y3 y4 y5 y6))
  | 0 => fun _ _ _ _ _ _ _ r h => by simp [spec_l3Up.f] at h
  | k + 1 => by
    have ih0 := spec_l3Up.mono_l k
    · intro y0 y1 y2 y3 y4 y5 y6
      unfold spec_l3Up.f
      repeat' first | (with_reducible first | exact ih0 _ _ _ _ _ _ _ | exact spec_HashPair.mono _ _ _ _ _ _ _ _ _ | exact spec_TreeSplit.mono _ _ | exact LeO.refl _ | exact LeO.none _ | refine LeO.ite ?_ ?_ | refine LeO.bind ?_ (fun _ => ?_)) | exact ih0 _ _ _ _ _ _ _ | exact LeO.none _ | refine LeO.ite ?_ ?_ | refine LeO.bind ?_ (fun _ => ?_)
theorem spec_l3Up.mono : ∀ a0 a1 a2 a3 a4 a5 a6 k, LeO (spec_l3Up.f k a0 a1 a2 a3 a4 a5 a6) (spec_l3Up.f (k + 1) a0 a1 a2 a3 a4 a5 a6) := by
  intro a0 a1 a2 a3 a4 a5 a6 k
  have ih0 := spec_l3Up.mono_l k
  exact ih0 a0 a1 a2 a3 a4 a5 a6
def spec_l3Up.T7 : Bool × List (List Nat × List Nat) := (true, [([], []), ([], []), ([], []), ([], []), ([0, 1, 2, 3], [0, 1, 2, 3]), ([], []), ([4, 5, 4], [4, 5]), ([6, 6, 0, 1, 2, 3, 4, 5, 6], [6])])
def spec_l3Up.B7 : List Nat := [0, 0, 0, 0, 15, 0, 63, 127]
theorem spec_l3Up.tab7 : rtab .any (opsOf Try.f101 7) = spec_l3Up.T7 := by kernel_rfl
theorem spec_l3Up.bits7 : waitsOk spec_l3Up.T7.2 spec_l3Up.B7 = true := by kernel_rfl
def spec_l3Up.T8 : Bool × List (List Nat × List Nat) := (true, [([], []), ([], []), ([], []), ([1, 2], [1, 2]), ([], []), ([], []), ([4, 5], [4, 5]), ([], []), ([], []), ([3, 6, 7, 8], [3, 6, 7, 8]), ([0, 9, 9], [0, 9]), ([10, 10, 0, 1, 2, 3, 4, 5, 6, 7, 8, 9, 10], [10])])
def spec_l3Up.B8 : List Nat := [0, 0, 0, 6, 0, 0, 48, 0, 0, 510, 1023, 2047]
theorem spec_l3Up.tab8 : rtab .any (opsOf Try.f101 8) = spec_l3Up.T8 := by kernel_rfl
theorem spec_l3Up.bits8 : waitsOk spec_l3Up.T8.2 spec_l3Up.B8 = true := by kernel_rfl
set_option maxHeartbeats 8000000 in
set_option maxRecDepth 100000 in
theorem spec_l3Up.calls (k : Nat) : ∀ (a0 : Int) (a1 : Int) (a2_0 : Int) (a2_1 : Int) (a2_2 : Int) (a2_3 : Int) (A3 : Option Addr) (c3 : Nat) (l3 : List (S29)) (r1 : Int) (r2 : Int) (r3 : Int) (r4 : Int) (w : World) (hr3 : Kd.C k29 w A3 l3.length l3) (hc3 : l3.length ≤ c3) (h : spec_l3Up.f k a0 a1 a2_0 a2_1 a2_2 a2_3 l3 = some (r1, r2, r3, r4)),
    Calls Try.prog 101 #[.int .i64 a0, .int .i64 a1, .agg #[.int .u64 a2_0, .int .u64 a2_1, .int .u64 a2_2, .int .u64 a2_3], .slice A3 l3.length c3] w fun e w' => e = .returned (.agg #[.int .u64 r1, .int .u64 r2, .int .u64 r3, .int .u64 r4]) ∧ Below w.heap.size w w' := by
  induction k using Nat.strongRecOn with
  | _ k ih =>
  intro a0 a1 a2_0 a2_1 a2_2 a2_3 A3 c3 l3 r1 r2 r3 r4 w hr3 hc3 h
  cases k with
  | zero => exact absurd h (by simp [spec_l3Up.f])
  | succ k =>
  simp only [spec_l3Up.f] at h
  have hu29 := Try.underlying29
  have HR3 := Aside0.mk hr3
  have HC3 := Aside0.mk hc3
  clear hr3 hc3
  have HB := Aside0.mk (Below.refl w.heap.size w)
  have H : (if a0 < 2 then (some (a2_0, a2_1, a2_2, a2_3)) else ((spec_TreeSplit.f k a0).bind fun t496 => (if 0 ≤ (wrap64 ((l3.length : Int) - 1)) then (if (wrap64 ((l3.length : Int) - 1)) < (l3.length : Int) then (if (wrap64 ((l3.length : Int) - 1)) ≤ (l3.length : Int) then ((some (l3.take ((wrap64 ((l3.length : Int) - 1)) : Int).toNat : List (S29))).bind fun y499 => (if a1 < t496 then ((spec_l3Up.f k t496 a1 a2_0 a2_1 a2_2 a2_3 y499).bind fun bt503 => ((spec_HashPair.f k bt503.1 bt503.2.1 bt503.2.2.1 bt503.2.2.2 ((rd_T29 l3 (wrap64 ((l3.length : Int) - 1))).f0) ((rd_T29 l3 (wrap64 ((l3.length : Int) - 1))).f1) ((rd_T29 l3 (wrap64 ((l3.length : Int) - 1))).f2) ((rd_T29 l3 (wrap64 ((l3.length : Int) - 1))).f3)).bind fun bt507 => (some (bt507.1, bt507.2.1, bt507.2.2.1, bt507.2.2.2)))) else ((spec_l3Up.f k (wrap64 (a0 - t496)) (wrap64 (a1 - t496)) a2_0 a2_1 a2_2 a2_3 y499).bind fun bt511 => ((spec_HashPair.f k ((rd_T29 l3 (wrap64 ((l3.length : Int) - 1))).f0) ((rd_T29 l3 (wrap64 ((l3.length : Int) - 1))).f1) ((rd_T29 l3 (wrap64 ((l3.length : Int) - 1))).f2) ((rd_T29 l3 (wrap64 ((l3.length : Int) - 1))).f3) bt511.1 bt511.2.1 bt511.2.2.1 bt511.2.2.2).bind fun bt515 => (some (bt515.1, bt515.2.1, bt515.2.2.1, bt515.2.2.2)))))) else (none)) else (none)) else (none)))) = some (r1, r2, r3, r4) := h
  clear h
  by_cases c5 : a0 < 2
  · rw [if_pos c5] at H
    have c5b0 : decide (a0 < 2) = true := decide_eq_true c5
    clear c5
    simp only [Option.some.injEq, Prod.mk.injEq] at H
    obtain ⟨rfl, rfl, rfl, rfl⟩ := H
    go_enter Try.func101, Try.ntmps101
    go_wp2_with (first | ((with_reducible refine gate_dst (N := 6) rfl ?_); refine boxE_ (cs := #[.int .u64 a2_0, .int .u64 a2_1, .int .u64 a2_2, .int .u64 a2_3]) (t := 29) ?_; intro gb494 hg w6 hbox hb; have BK494 := Aside0.mk (hbox); have GW494 := sizeB_ hg; have GE494 := sizeB_ hg; replace HB := stepB_ hb; clear hb hbox hg) | ((with_reducible refine gate_dst (N := 8) rfl ?_); refine boxE_ (cs := #[.int .u64 0, .int .u64 0, .int .u64 0, .int .u64 0]) (t := 29) ?_; intro gb495 hg w7 hbox hb; have BK495 := Aside0.mk (hbox); have GW495 := sizeB_ hg; have GE495 := sizeB_ hg; replace HB := stepB_ hb; have NB494_495 := neL_ BK494.out hg; have NB495_494 := neG_ BK494.out hg; replace BK494 := blkBel_ BK494.out hb; clear hb hbox hg; have hnb8 := NB494_495.out; have hnc8 := NB495_494.out; obtain ⟨hcz9_0, hcz9_1, hcz9_2, hcz9_3, hfz9_0, hfz9_1, hfz9_2, hfz9_3⟩ := cz4_ BK494.out; obtain ⟨hcz10_0, hcz10_1, hcz10_2, hcz10_3, hfz10_0, hfz10_1, hfz10_2, hfz10_3⟩ := cz4_ BK495.out))
    refine bodyPost_ret (results_cell_row rfl _ _ gb495 29 #[.int .u64 a2_0, .int .u64 a2_1, .int .u64 a2_2, .int .u64 a2_3] (0, 0) _ rfl (blkF_ BK495.out) Try.underlying29 rfl (by kernel_rfl)) rfl ?_
    exact ⟨rfl_, bel_⟩
  · rw [if_neg c5] at H
    have c5b0 : decide (a0 < 2) = false := decide_eq_false c5
    clear c5
    obtain ⟨t496, A11, H⟩ := bnd_ H
    obtain ⟨ji12, hji12⟩ : ∃ j_ : Int, (wrap64 ((l3.length : Int) - 1)) = j_ := ⟨_, rfl⟩
    replace H : (if 0 ≤ (ji12) then (if (ji12) < (l3.length : Int) then (if (ji12) ≤ (l3.length : Int) then ((some (l3.take ((ji12) : Int).toNat : List (S29))).bind fun y499 => (if a1 < t496 then ((spec_l3Up.f k t496 a1 a2_0 a2_1 a2_2 a2_3 y499).bind fun bt503 => ((spec_HashPair.f k bt503.1 bt503.2.1 bt503.2.2.1 bt503.2.2.2 ((rd_T29 l3 (ji12)).f0) ((rd_T29 l3 (ji12)).f1) ((rd_T29 l3 (ji12)).f2) ((rd_T29 l3 (ji12)).f3)).bind fun bt507 => (some (bt507.1, bt507.2.1, bt507.2.2.1, bt507.2.2.2)))) else ((spec_l3Up.f k (wrap64 (a0 - t496)) (wrap64 (a1 - t496)) a2_0 a2_1 a2_2 a2_3 y499).bind fun bt511 => ((spec_HashPair.f k ((rd_T29 l3 (ji12)).f0) ((rd_T29 l3 (ji12)).f1) ((rd_T29 l3 (ji12)).f2) ((rd_T29 l3 (ji12)).f3) bt511.1 bt511.2.1 bt511.2.2.1 bt511.2.2.2).bind fun bt515 => (some (bt515.1, bt515.2.1, bt515.2.2.1, bt515.2.2.2)))))) else (none)) else (none)) else (none)) = some (r1, r2, r3, r4) := by first | (rw [hji12] at H; exact H) | (simp only [hji12] at H ⊢; exact H)
    (try rw [hji12] at A11)
    have hji12w : (IntKind.i64.wrap ((l3.length : Int) - 1)) = ji12 := (i64_w _).trans hji12
    by_cases c13 : 0 ≤ (ji12)
    · rw [if_pos c13] at H
      have c13b0 : decide (0 ≤ (ji12)) = true := decide_eq_true c13
      clear c13
      by_cases c14 : (ji12) < (l3.length : Int)
      · rw [if_pos c14] at H
        have c14b0 : decide ((ji12) < (l3.length : Int)) = true := decide_eq_true c14
        clear c14
        have c15b0 := eq_true (ofd_ : 0 ≤ (ji12))
        by_cases c16 : (ji12) ≤ (l3.length : Int)
        · rw [if_pos c16] at H
          have c16b0 := eq_true c16
          have c16b1 : decide ((ji12) ≤ (l3.length : Int)) = true := decide_eq_true c16
          clear c16
          obtain ⟨y499, hy499⟩ : ∃ y_ : List (S29), y_ = (l3.take ((ji12) : Int).toNat) := ⟨_, rfl⟩
          replace H : (if a1 < t496 then ((spec_l3Up.f k t496 a1 a2_0 a2_1 a2_2 a2_3 y499).bind fun bt503 => ((spec_HashPair.f k bt503.1 bt503.2.1 bt503.2.2.1 bt503.2.2.2 ((rd_T29 l3 (ji12)).f0) ((rd_T29 l3 (ji12)).f1) ((rd_T29 l3 (ji12)).f2) ((rd_T29 l3 (ji12)).f3)).bind fun bt507 => (some (bt507.1, bt507.2.1, bt507.2.2.1, bt507.2.2.2)))) else ((spec_l3Up.f k (wrap64 (a0 - t496)) (wrap64 (a1 - t496)) a2_0 a2_1 a2_2 a2_3 y499).bind fun bt511 => ((spec_HashPair.f k ((rd_T29 l3 (ji12)).f0) ((rd_T29 l3 (ji12)).f1) ((rd_T29 l3 (ji12)).f2) ((rd_T29 l3 (ji12)).f3) bt511.1 bt511.2.1 bt511.2.2.1 bt511.2.2.2).bind fun bt515 => (some (bt515.1, bt515.2.1, bt515.2.2.1, bt515.2.2.2))))) = some (r1, r2, r3, r4) := by first | (rw [hy499]; with_reducible exact H) | (have H2_ := (Option.bind_some _ _).symm.trans H; rw [hy499]; with_reducible exact H2_) | (have H2_ := (Option.bind_some _ _).symm.trans H; with_reducible exact H2_) | with_reducible exact H | (rw [hy499]; exact H) | exact H
          have Ny499 := Aside0.mk hy499
          clear hy499
          by_cases c17 : a1 < t496
          · rw [if_pos c17] at H
            have c17b0 : decide (a1 < t496) = true := decide_eq_true c17
            clear c17
            obtain ⟨⟨t503, t504, t505, t506⟩, A18, H⟩ := bnd_ H
            dsimp only at H
            obtain ⟨⟨t507, t508, t509, t510⟩, A19, H⟩ := bnd_ H
            dsimp only at H
            simp only [Option.some.injEq, Prod.mk.injEq] at H
            obtain ⟨rfl, rfl, rfl, rfl⟩ := H
            go_enter Try.func101, Try.ntmps101
            try go_wp2_with (first | ((with_reducible refine gate_dst (N := 6) rfl ?_); refine boxE_ (cs := #[.int .u64 a2_0, .int .u64 a2_1, .int .u64 a2_2, .int .u64 a2_3]) (t := 29) ?_; intro gb494 hg w20 hbox hb; have BK494 := Aside0.mk (hbox); have GW494 := sizeB_ hg; have GE494 := sizeB_ hg; replace HB := stepB_ hb; clear hb hbox hg) | ((with_reducible refine gate_dst (N := 8) rfl ?_); refine boxE_ (cs := #[.int .u64 0, .int .u64 0, .int .u64 0, .int .u64 0]) (t := 29) ?_; intro gb495 hg w21 hbox hb; have BK495 := Aside0.mk (hbox); have GW495 := sizeB_ hg; have GE495 := sizeB_ hg; replace HB := stepB_ hb; have NB494_495 := neL_ BK494.out hg; have NB495_494 := neG_ BK494.out hg; replace BK494 := blkBel_ BK494.out hb; clear hb hbox hg) | ((with_reducible refine gate_callee (f := 55) rfl ?_); refine goL_ (some 16) Try.func55 #[.int .i64 a0] ?_; (with_reducible refine (spec_TreeSplit.calls k a0 t496 _ A11.out).mono ?_); rintro e w' ⟨rfl, ⟨nd, rfl⟩⟩; refine ⟨_, rfl, ?_⟩; (try (rw [drewN_self w21]; generalize hq_ : World.drewN w21 _ = w21; have n0_ : Aside0 (w21.heap[gb494]? = some (.cells #[.int .u64 a2_0, .int .u64 a2_1, .int .u64 a2_2, .int .u64 a2_3] 29 (0, 0))) := ⟨by rw [← hq_]; exact (blkU_ BK494.out)⟩; have n1_ : Aside0 (w21.heap[gb495]? = some (.cells #[.int .u64 0, .int .u64 0, .int .u64 0, .int .u64 0] 29 (0, 0))) := ⟨by rw [← hq_]; exact (blkU_ BK495.out)⟩; have n2_ : Aside0 (Below w.heap.size w w21) := ⟨by rw [← hq_]; exact bel_⟩; clear BK494 BK495 HB hq_; have BK494 := n0_; have BK495 := n1_; have HB := n2_; clear n0_ n1_ n2_)); have p497 : 0 ≤ ((ji12) : Int) := ofd_; have q497 : (ji12) < (l3.length : Int) := ofd_; obtain ⟨ad497, e497, hx497_0, hx497_1, hx497_2, hx497_3⟩ := at_T29 HR3.out (ji12) p497 q497; cases e497; replace hx497_0 := pw_cell_below HB.out hx497_0; replace hx497_1 := pw_cell_below HB.out hx497_1; replace hx497_2 := pw_cell_below HB.out hx497_2; replace hx497_3 := pw_cell_below HB.out hx497_3; replace p497 := eq_true p497; replace q497 := eq_true q497) | ((with_reducible refine gate_dst (N := 10) rfl ?_); refine boxE_ (cs := #[.int .u64 0, .int .u64 0, .int .u64 0, .int .u64 0]) (t := 29) ?_; intro gb498 hg w22 hbox hb; have BK498 := Aside0.mk (hbox); have GW498 := sizeB_ hg; have GE498 := sizeB_ hg; replace HB := stepB_ hb; have NB494_498 := neL_ BK494.out hg; have NB498_494 := neG_ BK494.out hg; replace BK494 := blkBel_ BK494.out hb; have NB495_498 := neL_ BK495.out hg; have NB498_495 := neG_ BK495.out hg; replace BK495 := blkBel_ BK495.out hb; clear hb hbox hg; have hnb23 := NB498_494.out; have hnc23 := NB494_498.out; have hnb24 := NB498_495.out; have hnc24 := NB495_498.out; obtain ⟨hcz25_0, hcz25_1, hcz25_2, hcz25_3, hfz25_0, hfz25_1, hfz25_2, hfz25_3⟩ := cz4_ BK498.out) | ((with_reducible refine gate_store (t := 29) (p := 10) rfl ?_); refine store_event (t := 29) (p := 10) (v := ?vo_w26) (w1 := ((((w22.setCell ⟨gb498, 0, none⟩ (.int .u64 ((rd_T29 l3 (ji12)).f0))).setCell ⟨gb498, 1, none⟩ (.int .u64 ((rd_T29 l3 (ji12)).f1))).setCell ⟨gb498, 2, none⟩ (.int .u64 ((rd_T29 l3 (ji12)).f2))).setCell ⟨gb498, 3, none⟩ (.int .u64 ((rd_T29 l3 (ji12)).f3)))) ?hg ?ho ?hn ?hr ?_; (case ho => rfl); (case hg => rfl); (case hn => rfl); (case hr => first | (go_simp; done) | (go_simp; rfl)); intro w26 hw; have n0_ : Aside0 (w26.heap[gb494]? = some (.cells #[.int .u64 a2_0, .int .u64 a2_1, .int .u64 a2_2, .int .u64 a2_3] 29 (0, 0))) := ⟨(by rw [hw]; exact (blkU_ BK494.out))⟩; have n1_ : Aside0 (w26.heap[gb495]? = some (.cells #[.int .u64 0, .int .u64 0, .int .u64 0, .int .u64 0] 29 (0, 0))) := ⟨(by rw [hw]; exact (blkU_ BK495.out))⟩; have n2_ : Aside0 (w26.heap[gb498]? = some (.cells #[.int .u64 ((rd_T29 l3 (ji12)).f0), .int .u64 ((rd_T29 l3 (ji12)).f1), .int .u64 ((rd_T29 l3 (ji12)).f2), .int .u64 ((rd_T29 l3 (ji12)).f3)] 29 (0, 0))) := ⟨(by rw [hw]; exact (blkF_ BK498.out))⟩; have n3_ : Aside0 (Below w.heap.size w w26) := ⟨(by rw [hw]; exact bel_)⟩; clear hw; clear BK494; clear BK495; clear BK498; clear HB; have BK494 := n0_; have BK495 := n1_; have BK498 := n2_; have HB := n3_; clear n0_ n1_ n2_ n3_; have q27 : ((ji12) : Int) ≤ ((l3.length : Int) : Int) := ofd_; obtain ⟨i027, hi027, _, hsz27, _⟩ := info_parts info29; have hroom27 : l3.length ≤ c3 := HC3.out; have hC27 : Kd.C k29 _ (some ad497) l3.length l3 := HR3.out; have hcut27 := cut_to (P := Try.prog) 49 29 .i64 Try.underlying49 hi027 (some ad497) l3.length c3 (ji12) (ofd_) q27 hroom27; have hr27 := Kd.C_take (m := ((ji12) : Int).toNat) hC27 (by omega); have hy27 : y499.length = ((ji12) : Int).toNat := (by rw [Ny499.out, List.length_take]; omega); rw [← Ny499.out] at hr27; rw [← hy27] at hcut27; have HR502 := Aside0.mk hr27; have HC502 := Aside0.mk (show y499.length ≤ c3 from by omega); clear hr27 hC27 hroom27 hi027 hsz27; have KY27 := Aside0.mk hy27; clear hy27; replace q27 := eq_true q27))
            replace BK494 := Aside0.mk (blk_drew BK494.out)
            replace BK495 := Aside0.mk (blk_drew BK495.out)
            replace BK498 := Aside0.mk (blk_drew BK498.out)
            replace HB := Aside0.mk (below_drew1 HB.out)
            refine start_ (n := 8) (S := fun w' => w'.cell? ⟨gb494, 0, none⟩ = some (.int .u64 a2_0) ∧ w'.cell? ⟨gb494, 1, none⟩ = some (.int .u64 a2_1) ∧ w'.cell? ⟨gb494, 2, none⟩ = some (.int .u64 a2_2) ∧ w'.cell? ⟨gb494, 3, none⟩ = some (.int .u64 a2_3) ∧ w'.cell? ⟨gb498, 0, none⟩ = some (.int .u64 ((rd_T29 l3 (ji12)).f0)) ∧ w'.cell? ⟨gb498, 1, none⟩ = some (.int .u64 ((rd_T29 l3 (ji12)).f1)) ∧ w'.cell? ⟨gb498, 2, none⟩ = some (.int .u64 ((rd_T29 l3 (ji12)).f2)) ∧ w'.cell? ⟨gb498, 3, none⟩ = some (.int .u64 ((rd_T29 l3 (ji12)).f3))) (ds := []) #[false, false, false, false, false, false, false, false] (by kernel_rfl) rfl rfl ⟨(blk_cell BK494.out 0).trans rfl, (blk_cell BK494.out 1).trans rfl, (blk_cell BK494.out 2).trans rfl, (blk_cell BK494.out 3).trans rfl, (blk_cell BK498.out 0).trans rfl, (blk_cell BK498.out 1).trans rfl, (blk_cell BK498.out 2).trans rfl, (blk_cell BK498.out 3).trans rfl⟩ (fun hHeld => ?_); refine with_tabW spec_l3Up.tab7 spec_l3Up.bits7 (fun HT_ HW_ => ?_)
            generalize w26.drew = w28 at BK494 BK495 BK498 HB hHeld ⊢
            refine pureP_ 0 (some 31) #[true, false, false, false, false, false, false, false] HT_ ?_
            refine pureP_ 1 (some 32) #[true, true, false, false, false, false, false, false] HT_ ?_
            refine pureP_ 3 (some 34) #[true, true, false, true, false, false, false, false] HT_ ?_
            refine takeP_ 2 (some 33) #[true, true, true, true, false, false, false, false] HT_ HW_ hHeld ?_
            refine takeP_ 5 (some 36) #[true, true, true, true, false, true, false, false] HT_ HW_ hHeld ?_
            refine oneP_ 4 (some 35) #[true, true, true, true, true, true, false, false] HT_ (fun K hK => ?_)
            refine goN_ Try.func101 #[.int .i64 t496, .int .i64 a1, .agg #[.int .u64 a2_0, .int .u64 a2_1, .int .u64 a2_2, .int .u64 a2_3], .slice (some ad497) y499.length c3] ?_
            with_reducible refine (ih k (by omega) t496 a1 a2_0 a2_1 a2_2 a2_3 _ _ y499 t503 t504 t505 t506 _ ?side1 ?side2 A18.out).mono ?_
            (case side1 => repeat (first | exact (Kd.C_below HR502.out HB.out) | (with_reducible refine Kd.C_alloc ?_ _) | (with_reducible refine Kd.C_drewN ?_ _) | (with_reducible refine Kd.C_drew ?_)))
            (case side2 => exact HC502.out)
            rintro e w29 ⟨rfl, hb⟩
            refine ⟨_, rfl, ?_⟩
            replace BK494 := blkBel_ BK494.out hb
            replace BK495 := blkBel_ BK495.out hb
            replace BK498 := blkBel_ BK498.out hb
            replace HB := stepB_ hb
            (try clear hb)
            refine hK.out _ _ ⟨(blk_cell BK494.out 0).trans rfl, (blk_cell BK494.out 1).trans rfl, (blk_cell BK494.out 2).trans rfl, (blk_cell BK494.out 3).trans rfl, (blk_cell BK498.out 0).trans rfl, (blk_cell BK498.out 1).trans rfl, (blk_cell BK498.out 2).trans rfl, (blk_cell BK498.out 3).trans rfl⟩ (fun hHeld => ?_)
            clear hK K
            refine norm_ (a' := ?_) ?_ ?_
            rotate_left
            · show Act.put _ (some 35) _ = _
              simp only [Act.put, List.setIfInBounds_toArray, List.set_cons_zero, List.set_cons_succ, i64_w, i32_w]
              rfl
            refine oneP_ 6 (some 37) #[true, true, true, true, true, true, true, false] HT_ (fun K hK => ?_)
            refine goes_ Try.func112 (by kernel_rfl) rfl #[.agg #[.int .u64 t503, .int .u64 t504, .int .u64 t505, .int .u64 t506], .agg #[.int .u64 ((rd_T29 l3 (ji12)).f0), .int .u64 ((rd_T29 l3 (ji12)).f1), .int .u64 ((rd_T29 l3 (ji12)).f2), .int .u64 ((rd_T29 l3 (ji12)).f3)]] (by rfl) rfl rfl (by (try simp only [List.map_toArray, List.map_cons, List.map_nil]); first | done | (simp only [hji12]; rfl) | rfl | (simp only [List.length_drop, List.length_take]; rfl)) ?_
            with_reducible refine (spec_HashPair.calls k t503 t504 t505 t506 ((rd_T29 l3 (ji12)).f0) ((rd_T29 l3 (ji12)).f1) ((rd_T29 l3 (ji12)).f2) ((rd_T29 l3 (ji12)).f3) t507 t508 t509 t510 _ A19.out).mono ?_
            rintro e w30 ⟨rfl, hb⟩
            refine ⟨_, rfl, ?_⟩
            replace BK494 := blkBel_ BK494.out hb
            replace BK495 := blkBel_ BK495.out hb
            replace BK498 := blkBel_ BK498.out hb
            replace HB := stepB_ hb
            (try clear hb)
            refine hK.out _ _ ⟨(blk_cell BK494.out 0).trans rfl, (blk_cell BK494.out 1).trans rfl, (blk_cell BK494.out 2).trans rfl, (blk_cell BK494.out 3).trans rfl, (blk_cell BK498.out 0).trans rfl, (blk_cell BK498.out 1).trans rfl, (blk_cell BK498.out 2).trans rfl, (blk_cell BK498.out 3).trans rfl⟩ (fun hHeld => ?_)
            clear hK K
            refine norm_ (a' := ?_) ?_ ?_
            rotate_left
            · show Act.put _ (some 37) _ = _
              simp only [Act.put, List.setIfInBounds_toArray, List.set_cons_zero, List.set_cons_succ, i64_w, i32_w]
              rfl
            refine oneP_ 7 none #[true, true, true, true, true, true, true, true] HT_ (fun K hK => ?_)
            have hs31 : w30.cell? ⟨gb495, 0, none⟩ = some (.int .u64 0) := (blk_cell BK495.out 0).trans rfl
            have hfs31 := blk_frozen BK495.out 0
            have hns31_0 := NB494_495.out
            have hns31_2 := NB498_495.out
            have hms31_0 := NB495_494.out
            have hms31_2 := NB495_498.out
            have hs32 : w30.cell? ⟨gb495, 1, none⟩ = some (.int .u64 0) := (blk_cell BK495.out 1).trans rfl
            have hfs32 := blk_frozen BK495.out 1
            have hns32_0 := NB494_495.out
            have hns32_2 := NB498_495.out
            have hms32_0 := NB495_494.out
            have hms32_2 := NB495_498.out
            have hs33 : w30.cell? ⟨gb495, 2, none⟩ = some (.int .u64 0) := (blk_cell BK495.out 2).trans rfl
            have hfs33 := blk_frozen BK495.out 2
            have hns33_0 := NB494_495.out
            have hns33_2 := NB498_495.out
            have hms33_0 := NB495_494.out
            have hms33_2 := NB495_498.out
            have hs34 : w30.cell? ⟨gb495, 3, none⟩ = some (.int .u64 0) := (blk_cell BK495.out 3).trans rfl
            have hfs34 := blk_frozen BK495.out 3
            have hns34_0 := NB494_495.out
            have hns34_2 := NB498_495.out
            have hms34_0 := NB495_494.out
            have hms34_2 := NB495_498.out
            refine skip_ (w1 := ?_) (by rfl) rfl ?_ ?_
            rotate_left
            · go_simp
              rfl
            refine hK.out _ _ ⟨((cell_far (p := ⟨gb495, _, none⟩) NB494_495.out _).trans (((cell_far (p := ⟨gb495, _, none⟩) NB494_495.out _).trans (((cell_far (p := ⟨gb495, _, none⟩) NB494_495.out _).trans (((cell_far (p := ⟨gb495, _, none⟩) NB494_495.out _).trans (hHeld.1)))))))), ((cell_far (p := ⟨gb495, _, none⟩) NB494_495.out _).trans (((cell_far (p := ⟨gb495, _, none⟩) NB494_495.out _).trans (((cell_far (p := ⟨gb495, _, none⟩) NB494_495.out _).trans (((cell_far (p := ⟨gb495, _, none⟩) NB494_495.out _).trans (hHeld.2.1)))))))), ((cell_far (p := ⟨gb495, _, none⟩) NB494_495.out _).trans (((cell_far (p := ⟨gb495, _, none⟩) NB494_495.out _).trans (((cell_far (p := ⟨gb495, _, none⟩) NB494_495.out _).trans (((cell_far (p := ⟨gb495, _, none⟩) NB494_495.out _).trans (hHeld.2.2.1)))))))), ((cell_far (p := ⟨gb495, _, none⟩) NB494_495.out _).trans (((cell_far (p := ⟨gb495, _, none⟩) NB494_495.out _).trans (((cell_far (p := ⟨gb495, _, none⟩) NB494_495.out _).trans (((cell_far (p := ⟨gb495, _, none⟩) NB494_495.out _).trans (hHeld.2.2.2.1)))))))), ((cell_far (p := ⟨gb495, _, none⟩) NB498_495.out _).trans (((cell_far (p := ⟨gb495, _, none⟩) NB498_495.out _).trans (((cell_far (p := ⟨gb495, _, none⟩) NB498_495.out _).trans (((cell_far (p := ⟨gb495, _, none⟩) NB498_495.out _).trans (hHeld.2.2.2.2.1)))))))), ((cell_far (p := ⟨gb495, _, none⟩) NB498_495.out _).trans (((cell_far (p := ⟨gb495, _, none⟩) NB498_495.out _).trans (((cell_far (p := ⟨gb495, _, none⟩) NB498_495.out _).trans (((cell_far (p := ⟨gb495, _, none⟩) NB498_495.out _).trans (hHeld.2.2.2.2.2.1)))))))), ((cell_far (p := ⟨gb495, _, none⟩) NB498_495.out _).trans (((cell_far (p := ⟨gb495, _, none⟩) NB498_495.out _).trans (((cell_far (p := ⟨gb495, _, none⟩) NB498_495.out _).trans (((cell_far (p := ⟨gb495, _, none⟩) NB498_495.out _).trans (hHeld.2.2.2.2.2.2.1)))))))), ((cell_far (p := ⟨gb495, _, none⟩) NB498_495.out _).trans (((cell_far (p := ⟨gb495, _, none⟩) NB498_495.out _).trans (((cell_far (p := ⟨gb495, _, none⟩) NB498_495.out _).trans (((cell_far (p := ⟨gb495, _, none⟩) NB498_495.out _).trans (hHeld.2.2.2.2.2.2.2))))))))⟩ (fun hHeld => ?_)
            clear hK K
            refine done_ (done_of HT_.out (by kernel_rfl)) ?_
            try go_wp2
            refine bodyPost_ret (results_cell_row rfl _ _ gb495 29 #[.int .u64 t507, .int .u64 t508, .int .u64 t509, .int .u64 t510] (0, 0) _ rfl (blkF_ BK495.out) Try.underlying29 rfl (by kernel_rfl)) rfl ?_
            exact ⟨by first | rfl | (simp [errW_none, errW_some] <;> rfl) | (simp only [← hji12]; first | rfl | (simp [errW_none, errW_some] <;> rfl)) | (simp [*, errW_none, errW_some] <;> rfl), bel_⟩
          · rw [if_neg c17] at H
            have c17b0 : decide (a1 < t496) = false := decide_eq_false c17
            clear c17
            obtain ⟨⟨t511, t512, t513, t514⟩, A35, H⟩ := bnd_ H
            dsimp only at H
            obtain ⟨⟨t515, t516, t517, t518⟩, A36, H⟩ := bnd_ H
            dsimp only at H
            simp only [Option.some.injEq, Prod.mk.injEq] at H
            obtain ⟨rfl, rfl, rfl, rfl⟩ := H
            go_enter Try.func101, Try.ntmps101
            try go_wp2_with (first | ((with_reducible refine gate_dst (N := 6) rfl ?_); refine boxE_ (cs := #[.int .u64 a2_0, .int .u64 a2_1, .int .u64 a2_2, .int .u64 a2_3]) (t := 29) ?_; intro gb494 hg w37 hbox hb; have BK494 := Aside0.mk (hbox); have GW494 := sizeB_ hg; have GE494 := sizeB_ hg; replace HB := stepB_ hb; clear hb hbox hg) | ((with_reducible refine gate_dst (N := 8) rfl ?_); refine boxE_ (cs := #[.int .u64 0, .int .u64 0, .int .u64 0, .int .u64 0]) (t := 29) ?_; intro gb495 hg w38 hbox hb; have BK495 := Aside0.mk (hbox); have GW495 := sizeB_ hg; have GE495 := sizeB_ hg; replace HB := stepB_ hb; have NB494_495 := neL_ BK494.out hg; have NB495_494 := neG_ BK494.out hg; replace BK494 := blkBel_ BK494.out hb; clear hb hbox hg) | ((with_reducible refine gate_callee (f := 55) rfl ?_); refine goL_ (some 16) Try.func55 #[.int .i64 a0] ?_; (with_reducible refine (spec_TreeSplit.calls k a0 t496 _ A11.out).mono ?_); rintro e w' ⟨rfl, ⟨nd, rfl⟩⟩; refine ⟨_, rfl, ?_⟩; (try (rw [drewN_self w38]; generalize hq_ : World.drewN w38 _ = w38; have n0_ : Aside0 (w38.heap[gb494]? = some (.cells #[.int .u64 a2_0, .int .u64 a2_1, .int .u64 a2_2, .int .u64 a2_3] 29 (0, 0))) := ⟨by rw [← hq_]; exact (blkU_ BK494.out)⟩; have n1_ : Aside0 (w38.heap[gb495]? = some (.cells #[.int .u64 0, .int .u64 0, .int .u64 0, .int .u64 0] 29 (0, 0))) := ⟨by rw [← hq_]; exact (blkU_ BK495.out)⟩; have n2_ : Aside0 (Below w.heap.size w w38) := ⟨by rw [← hq_]; exact bel_⟩; clear BK494 BK495 HB hq_; have BK494 := n0_; have BK495 := n1_; have HB := n2_; clear n0_ n1_ n2_)); have p497 : 0 ≤ ((ji12) : Int) := ofd_; have q497 : (ji12) < (l3.length : Int) := ofd_; obtain ⟨ad497, e497, hx497_0, hx497_1, hx497_2, hx497_3⟩ := at_T29 HR3.out (ji12) p497 q497; cases e497; replace hx497_0 := pw_cell_below HB.out hx497_0; replace hx497_1 := pw_cell_below HB.out hx497_1; replace hx497_2 := pw_cell_below HB.out hx497_2; replace hx497_3 := pw_cell_below HB.out hx497_3; replace p497 := eq_true p497; replace q497 := eq_true q497) | ((with_reducible refine gate_dst (N := 10) rfl ?_); refine boxE_ (cs := #[.int .u64 0, .int .u64 0, .int .u64 0, .int .u64 0]) (t := 29) ?_; intro gb498 hg w39 hbox hb; have BK498 := Aside0.mk (hbox); have GW498 := sizeB_ hg; have GE498 := sizeB_ hg; replace HB := stepB_ hb; have NB494_498 := neL_ BK494.out hg; have NB498_494 := neG_ BK494.out hg; replace BK494 := blkBel_ BK494.out hb; have NB495_498 := neL_ BK495.out hg; have NB498_495 := neG_ BK495.out hg; replace BK495 := blkBel_ BK495.out hb; clear hb hbox hg; have hnb40 := NB498_494.out; have hnc40 := NB494_498.out; have hnb41 := NB498_495.out; have hnc41 := NB495_498.out; obtain ⟨hcz42_0, hcz42_1, hcz42_2, hcz42_3, hfz42_0, hfz42_1, hfz42_2, hfz42_3⟩ := cz4_ BK498.out) | ((with_reducible refine gate_store (t := 29) (p := 10) rfl ?_); refine store_event (t := 29) (p := 10) (v := ?vo_w43) (w1 := ((((w39.setCell ⟨gb498, 0, none⟩ (.int .u64 ((rd_T29 l3 (ji12)).f0))).setCell ⟨gb498, 1, none⟩ (.int .u64 ((rd_T29 l3 (ji12)).f1))).setCell ⟨gb498, 2, none⟩ (.int .u64 ((rd_T29 l3 (ji12)).f2))).setCell ⟨gb498, 3, none⟩ (.int .u64 ((rd_T29 l3 (ji12)).f3)))) ?hg ?ho ?hn ?hr ?_; (case ho => rfl); (case hg => rfl); (case hn => rfl); (case hr => first | (go_simp; done) | (go_simp; rfl)); intro w43 hw; have n0_ : Aside0 (w43.heap[gb494]? = some (.cells #[.int .u64 a2_0, .int .u64 a2_1, .int .u64 a2_2, .int .u64 a2_3] 29 (0, 0))) := ⟨(by rw [hw]; exact (blkU_ BK494.out))⟩; have n1_ : Aside0 (w43.heap[gb495]? = some (.cells #[.int .u64 0, .int .u64 0, .int .u64 0, .int .u64 0] 29 (0, 0))) := ⟨(by rw [hw]; exact (blkU_ BK495.out))⟩; have n2_ : Aside0 (w43.heap[gb498]? = some (.cells #[.int .u64 ((rd_T29 l3 (ji12)).f0), .int .u64 ((rd_T29 l3 (ji12)).f1), .int .u64 ((rd_T29 l3 (ji12)).f2), .int .u64 ((rd_T29 l3 (ji12)).f3)] 29 (0, 0))) := ⟨(by rw [hw]; exact (blkF_ BK498.out))⟩; have n3_ : Aside0 (Below w.heap.size w w43) := ⟨(by rw [hw]; exact bel_)⟩; clear hw; clear BK494; clear BK495; clear BK498; clear HB; have BK494 := n0_; have BK495 := n1_; have BK498 := n2_; have HB := n3_; clear n0_ n1_ n2_ n3_; have q44 : ((ji12) : Int) ≤ ((l3.length : Int) : Int) := ofd_; obtain ⟨i044, hi044, _, hsz44, _⟩ := info_parts info29; have hroom44 : l3.length ≤ c3 := HC3.out; have hC44 : Kd.C k29 _ (some ad497) l3.length l3 := HR3.out; have hcut44 := cut_to (P := Try.prog) 49 29 .i64 Try.underlying49 hi044 (some ad497) l3.length c3 (ji12) (ofd_) q44 hroom44; have hr44 := Kd.C_take (m := ((ji12) : Int).toNat) hC44 (by omega); have hy44 : y499.length = ((ji12) : Int).toNat := (by rw [Ny499.out, List.length_take]; omega); rw [← Ny499.out] at hr44; rw [← hy44] at hcut44; have HR502 := Aside0.mk hr44; have HC502 := Aside0.mk (show y499.length ≤ c3 from by omega); clear hr44 hC44 hroom44 hi044 hsz44; have KY44 := Aside0.mk hy44; clear hy44; replace q44 := eq_true q44))
            replace BK494 := Aside0.mk (blk_drew BK494.out)
            replace BK495 := Aside0.mk (blk_drew BK495.out)
            replace BK498 := Aside0.mk (blk_drew BK498.out)
            replace HB := Aside0.mk (below_drew1 HB.out)
            refine start_ (n := 12) (S := fun w' => w'.cell? ⟨gb498, 0, none⟩ = some (.int .u64 ((rd_T29 l3 (ji12)).f0)) ∧ w'.cell? ⟨gb498, 1, none⟩ = some (.int .u64 ((rd_T29 l3 (ji12)).f1)) ∧ w'.cell? ⟨gb498, 2, none⟩ = some (.int .u64 ((rd_T29 l3 (ji12)).f2)) ∧ w'.cell? ⟨gb498, 3, none⟩ = some (.int .u64 ((rd_T29 l3 (ji12)).f3)) ∧ w'.cell? ⟨gb494, 0, none⟩ = some (.int .u64 a2_0) ∧ w'.cell? ⟨gb494, 1, none⟩ = some (.int .u64 a2_1) ∧ w'.cell? ⟨gb494, 2, none⟩ = some (.int .u64 a2_2) ∧ w'.cell? ⟨gb494, 3, none⟩ = some (.int .u64 a2_3)) (ds := []) #[false, false, false, false, false, false, false, false, false, false, false, false] (by kernel_rfl) rfl rfl ⟨(blk_cell BK498.out 0).trans rfl, (blk_cell BK498.out 1).trans rfl, (blk_cell BK498.out 2).trans rfl, (blk_cell BK498.out 3).trans rfl, (blk_cell BK494.out 0).trans rfl, (blk_cell BK494.out 1).trans rfl, (blk_cell BK494.out 2).trans rfl, (blk_cell BK494.out 3).trans rfl⟩ (fun hHeld => ?_); refine with_tabW spec_l3Up.tab8 spec_l3Up.bits8 (fun HT_ HW_ => ?_)
            generalize w43.drew = w45 at BK494 BK495 BK498 HB hHeld ⊢
            refine pureP_ 1 (some 39) #[false, true, false, false, false, false, false, false, false, false, false, false] HT_ ?_
            refine pureP_ 2 (some 40) #[false, true, true, false, false, false, false, false, false, false, false, false] HT_ ?_
            refine pureP_ 3 (some 41) #[false, true, true, true, false, false, false, false, false, false, false, false] HT_ ?_
            refine pureP_ 4 (some 42) #[false, true, true, true, true, false, false, false, false, false, false, false] HT_ ?_
            refine pureP_ 5 (some 43) #[false, true, true, true, true, true, false, false, false, false, false, false] HT_ ?_
            refine pureP_ 6 (some 44) #[false, true, true, true, true, true, true, false, false, false, false, false] HT_ ?_
            refine pureP_ 8 (some 46) #[false, true, true, true, true, true, true, false, true, false, false, false] HT_ ?_
            refine takeP_ 0 (some 38) #[true, true, true, true, true, true, true, false, true, false, false, false] HT_ HW_ hHeld ?_
            refine takeP_ 7 (some 45) #[true, true, true, true, true, true, true, true, true, false, false, false] HT_ HW_ hHeld ?_
            refine oneP_ 9 (some 47) #[true, true, true, true, true, true, true, true, true, true, false, false] HT_ (fun K hK => ?_)
            refine goN_ Try.func101 #[.int .i64 (wrap64 (a0 - t496)), .int .i64 (wrap64 (a1 - t496)), .agg #[.int .u64 a2_0, .int .u64 a2_1, .int .u64 a2_2, .int .u64 a2_3], .slice (some ad497) y499.length c3] ?_
            with_reducible refine (ih k (by omega) (wrap64 (a0 - t496)) (wrap64 (a1 - t496)) a2_0 a2_1 a2_2 a2_3 _ _ y499 t511 t512 t513 t514 _ ?side1 ?side2 A35.out).mono ?_
            (case side1 => repeat (first | exact (Kd.C_below HR502.out HB.out) | (with_reducible refine Kd.C_alloc ?_ _) | (with_reducible refine Kd.C_drewN ?_ _) | (with_reducible refine Kd.C_drew ?_)))
            (case side2 => exact HC502.out)
            rintro e w46 ⟨rfl, hb⟩
            refine ⟨_, rfl, ?_⟩
            replace BK494 := blkBel_ BK494.out hb
            replace BK495 := blkBel_ BK495.out hb
            replace BK498 := blkBel_ BK498.out hb
            replace HB := stepB_ hb
            (try clear hb)
            refine hK.out _ _ ⟨(blk_cell BK498.out 0).trans rfl, (blk_cell BK498.out 1).trans rfl, (blk_cell BK498.out 2).trans rfl, (blk_cell BK498.out 3).trans rfl, (blk_cell BK494.out 0).trans rfl, (blk_cell BK494.out 1).trans rfl, (blk_cell BK494.out 2).trans rfl, (blk_cell BK494.out 3).trans rfl⟩ (fun hHeld => ?_)
            clear hK K
            refine norm_ (a' := ?_) ?_ ?_
            rotate_left
            · show Act.put _ (some 47) _ = _
              simp only [Act.put, List.setIfInBounds_toArray, List.set_cons_zero, List.set_cons_succ, i64_w, i32_w]
              rfl
            refine oneP_ 10 (some 48) #[true, true, true, true, true, true, true, true, true, true, true, false] HT_ (fun K hK => ?_)
            refine goes_ Try.func112 (by kernel_rfl) rfl #[.agg #[.int .u64 ((rd_T29 l3 (ji12)).f0), .int .u64 ((rd_T29 l3 (ji12)).f1), .int .u64 ((rd_T29 l3 (ji12)).f2), .int .u64 ((rd_T29 l3 (ji12)).f3)], .agg #[.int .u64 t511, .int .u64 t512, .int .u64 t513, .int .u64 t514]] (by rfl) rfl rfl (by (try simp only [List.map_toArray, List.map_cons, List.map_nil]); first | done | (simp only [hji12]; rfl) | rfl | (simp only [List.length_drop, List.length_take]; rfl)) ?_
            with_reducible refine (spec_HashPair.calls k ((rd_T29 l3 (ji12)).f0) ((rd_T29 l3 (ji12)).f1) ((rd_T29 l3 (ji12)).f2) ((rd_T29 l3 (ji12)).f3) t511 t512 t513 t514 t515 t516 t517 t518 _ A36.out).mono ?_
            rintro e w47 ⟨rfl, hb⟩
            refine ⟨_, rfl, ?_⟩
            replace BK494 := blkBel_ BK494.out hb
            replace BK495 := blkBel_ BK495.out hb
            replace BK498 := blkBel_ BK498.out hb
            replace HB := stepB_ hb
            (try clear hb)
            refine hK.out _ _ ⟨(blk_cell BK498.out 0).trans rfl, (blk_cell BK498.out 1).trans rfl, (blk_cell BK498.out 2).trans rfl, (blk_cell BK498.out 3).trans rfl, (blk_cell BK494.out 0).trans rfl, (blk_cell BK494.out 1).trans rfl, (blk_cell BK494.out 2).trans rfl, (blk_cell BK494.out 3).trans rfl⟩ (fun hHeld => ?_)
            clear hK K
            refine norm_ (a' := ?_) ?_ ?_
            rotate_left
            · show Act.put _ (some 48) _ = _
              simp only [Act.put, List.setIfInBounds_toArray, List.set_cons_zero, List.set_cons_succ, i64_w, i32_w]
              rfl
            refine oneP_ 11 none #[true, true, true, true, true, true, true, true, true, true, true, true] HT_ (fun K hK => ?_)
            have hs48 : w47.cell? ⟨gb495, 0, none⟩ = some (.int .u64 0) := (blk_cell BK495.out 0).trans rfl
            have hfs48 := blk_frozen BK495.out 0
            have hns48_0 := NB494_495.out
            have hns48_2 := NB498_495.out
            have hms48_0 := NB495_494.out
            have hms48_2 := NB495_498.out
            have hs49 : w47.cell? ⟨gb495, 1, none⟩ = some (.int .u64 0) := (blk_cell BK495.out 1).trans rfl
            have hfs49 := blk_frozen BK495.out 1
            have hns49_0 := NB494_495.out
            have hns49_2 := NB498_495.out
            have hms49_0 := NB495_494.out
            have hms49_2 := NB495_498.out
            have hs50 : w47.cell? ⟨gb495, 2, none⟩ = some (.int .u64 0) := (blk_cell BK495.out 2).trans rfl
            have hfs50 := blk_frozen BK495.out 2
            have hns50_0 := NB494_495.out
            have hns50_2 := NB498_495.out
            have hms50_0 := NB495_494.out
            have hms50_2 := NB495_498.out
            have hs51 : w47.cell? ⟨gb495, 3, none⟩ = some (.int .u64 0) := (blk_cell BK495.out 3).trans rfl
            have hfs51 := blk_frozen BK495.out 3
            have hns51_0 := NB494_495.out
            have hns51_2 := NB498_495.out
            have hms51_0 := NB495_494.out
            have hms51_2 := NB495_498.out
            refine skip_ (w1 := ?_) (by rfl) rfl ?_ ?_
            rotate_left
            · go_simp
              rfl
            refine hK.out _ _ ⟨((cell_far (p := ⟨gb495, _, none⟩) NB498_495.out _).trans (((cell_far (p := ⟨gb495, _, none⟩) NB498_495.out _).trans (((cell_far (p := ⟨gb495, _, none⟩) NB498_495.out _).trans (((cell_far (p := ⟨gb495, _, none⟩) NB498_495.out _).trans (hHeld.1)))))))), ((cell_far (p := ⟨gb495, _, none⟩) NB498_495.out _).trans (((cell_far (p := ⟨gb495, _, none⟩) NB498_495.out _).trans (((cell_far (p := ⟨gb495, _, none⟩) NB498_495.out _).trans (((cell_far (p := ⟨gb495, _, none⟩) NB498_495.out _).trans (hHeld.2.1)))))))), ((cell_far (p := ⟨gb495, _, none⟩) NB498_495.out _).trans (((cell_far (p := ⟨gb495, _, none⟩) NB498_495.out _).trans (((cell_far (p := ⟨gb495, _, none⟩) NB498_495.out _).trans (((cell_far (p := ⟨gb495, _, none⟩) NB498_495.out _).trans (hHeld.2.2.1)))))))), ((cell_far (p := ⟨gb495, _, none⟩) NB498_495.out _).trans (((cell_far (p := ⟨gb495, _, none⟩) NB498_495.out _).trans (((cell_far (p := ⟨gb495, _, none⟩) NB498_495.out _).trans (((cell_far (p := ⟨gb495, _, none⟩) NB498_495.out _).trans (hHeld.2.2.2.1)))))))), ((cell_far (p := ⟨gb495, _, none⟩) NB494_495.out _).trans (((cell_far (p := ⟨gb495, _, none⟩) NB494_495.out _).trans (((cell_far (p := ⟨gb495, _, none⟩) NB494_495.out _).trans (((cell_far (p := ⟨gb495, _, none⟩) NB494_495.out _).trans (hHeld.2.2.2.2.1)))))))), ((cell_far (p := ⟨gb495, _, none⟩) NB494_495.out _).trans (((cell_far (p := ⟨gb495, _, none⟩) NB494_495.out _).trans (((cell_far (p := ⟨gb495, _, none⟩) NB494_495.out _).trans (((cell_far (p := ⟨gb495, _, none⟩) NB494_495.out _).trans (hHeld.2.2.2.2.2.1)))))))), ((cell_far (p := ⟨gb495, _, none⟩) NB494_495.out _).trans (((cell_far (p := ⟨gb495, _, none⟩) NB494_495.out _).trans (((cell_far (p := ⟨gb495, _, none⟩) NB494_495.out _).trans (((cell_far (p := ⟨gb495, _, none⟩) NB494_495.out _).trans (hHeld.2.2.2.2.2.2.1)))))))), ((cell_far (p := ⟨gb495, _, none⟩) NB494_495.out _).trans (((cell_far (p := ⟨gb495, _, none⟩) NB494_495.out _).trans (((cell_far (p := ⟨gb495, _, none⟩) NB494_495.out _).trans (((cell_far (p := ⟨gb495, _, none⟩) NB494_495.out _).trans (hHeld.2.2.2.2.2.2.2))))))))⟩ (fun hHeld => ?_)
            clear hK K
            refine done_ (done_of HT_.out (by kernel_rfl)) ?_
            try go_wp2
            refine bodyPost_ret (results_cell_row rfl _ _ gb495 29 #[.int .u64 t515, .int .u64 t516, .int .u64 t517, .int .u64 t518] (0, 0) _ rfl (blkF_ BK495.out) Try.underlying29 rfl (by kernel_rfl)) rfl ?_
            exact ⟨by first | rfl | (simp [errW_none, errW_some] <;> rfl) | (simp only [← hji12]; first | rfl | (simp [errW_none, errW_some] <;> rfl)) | (simp [*, errW_none, errW_some] <;> rfl), bel_⟩
        · rw [if_neg c16] at H
          exact absurd H (by simp)
      · rw [if_neg c14] at H
        exact absurd H (by simp)
    · rw [if_neg c13] at H
      exact absurd H (by simp)

end
section
/-! ### spec_PathRoot: function 50 -/
def spec_PathRoot.j0 : Nat → Int → Int → ByteArray → List (S29) → Bool → Option (Int × Int × Int × Int × Bool)
  | 0, _, _, _, _, _ => none
  | k + 1, x0, x1, x2, x3, x26 => if x26 = true then (some (0, 0, 0, 0, false)) else ((spec_HashLeaf.f k x2).bind fun bt531 => ((spec_l3Up.f k x0 x1 bt531.1 bt531.2.1 bt531.2.2.1 bt531.2.2.2 x3).bind fun bt535 => (some (bt535.1, bt535.2.1, bt535.2.2.1, bt535.2.2.2, true))))
def spec_PathRoot.f (k : Nat) (a0 : Int) (a1 : Int) (a2 : ByteArray) (l3 : List (S29)) : Option (Int × Int × Int × Int × Bool) := (spec_l3Place.f a0 a1).bind fun t529 => (if t529 = true then (if (a2.size : Int) > 40 then (spec_PathRoot.j0 k a0 a1 a2 l3 true) else ((spec_PathLen.f k a0 a1).bind fun t530 => (spec_PathRoot.j0 k a0 a1 a2 l3 ((l3.length : Int) != t530)))) else (spec_PathRoot.j0 k a0 a1 a2 l3 true))
theorem spec_PathRoot.mono_l : ∀ k, (∀ y0 y1 y2 y3 y4, LeO (spec_PathRoot.j0 k y0 y1 y2 y3 y4) (spec_PathRoot.j0 (k + 1) y0 y1 y2 y3 y4))
  | 0 => fun _ _ _ _ _ r h => by simp [spec_PathRoot.j0] at h
  | k + 1 => by
    have ih0 := spec_PathRoot.mono_l k
    · intro y0 y1 y2 y3 y4
      unfold spec_PathRoot.j0
      repeat' first | (with_reducible first | exact ih0 _ _ _ _ _ | exact spec_HashLeaf.mono _ _ | exact spec_PathLen.mono _ _ _ | exact spec_l3Up.mono _ _ _ _ _ _ _ _ | exact LeO.refl _ | exact LeO.none _ | refine LeO.ite ?_ ?_ | refine LeO.bind ?_ (fun _ => ?_)) | exact ih0 _ _ _ _ _ | exact LeO.none _ | refine LeO.ite ?_ ?_ | refine LeO.bind ?_ (fun _ => ?_)
theorem spec_PathRoot.mono : ∀ a0 a1 a2 a3 k, LeO (spec_PathRoot.f k a0 a1 a2 a3) (spec_PathRoot.f (k + 1) a0 a1 a2 a3) := by
  intro a0 a1 a2 a3 k
  have ih0 := spec_PathRoot.mono_l k
  unfold spec_PathRoot.f
  repeat' first | (with_reducible first | exact ih0 _ _ _ _ _ | exact spec_HashLeaf.mono _ _ | exact spec_PathLen.mono _ _ _ | exact spec_l3Up.mono _ _ _ _ _ _ _ _ | exact LeO.refl _ | exact LeO.none _ | refine LeO.ite ?_ ?_ | refine LeO.bind ?_ (fun _ => ?_)) | exact ih0 _ _ _ _ _ | exact LeO.none _ | refine LeO.ite ?_ ?_ | refine LeO.bind ?_ (fun _ => ?_)
set_option maxHeartbeats 8000000 in
set_option maxRecDepth 100000 in
theorem spec_PathRoot.calls (k : Nat) (a0 : Int) (a1 : Int) (a2 : ByteArray) (A3 : Option Addr) (c3 : Nat) (l3 : List (S29)) (r1 : Int) (r2 : Int) (r3 : Int) (r4 : Int) (r5 : Bool) (w : World) (hr3 : Kd.C k29 w A3 l3.length l3) (hc3 : l3.length ≤ c3) (h : spec_PathRoot.f k a0 a1 a2 l3 = some (r1, r2, r3, r4, r5)) :
    Calls Try.prog 50 #[.int .i64 a0, .int .i64 a1, .string a2, .slice A3 l3.length c3] w fun e w' => e = .returned (.tuple #[.agg #[.int .u64 r1, .int .u64 r2, .int .u64 r3, .int .u64 r4], .bool r5]) ∧ Below w.heap.size w w' := by
  have hu29 := Try.underlying29
  have HR3 := Aside0.mk hr3
  have HC3 := Aside0.mk hc3
  clear hr3 hc3
  have HB := Aside0.mk (Below.refl w.heap.size w)
  have H : ((spec_l3Place.f a0 a1).bind fun t529 => (if t529 = true then (if (a2.size : Int) > 40 then (spec_PathRoot.j0 k a0 a1 a2 l3 true) else ((spec_PathLen.f k a0 a1).bind fun t530 => (spec_PathRoot.j0 k a0 a1 a2 l3 ((l3.length : Int) != t530)))) else (spec_PathRoot.j0 k a0 a1 a2 l3 true))) = some (r1, r2, r3, r4, r5) := h
  clear h
  have HC5 := Aside0.mk H
  clear H
  go_enter Try.func50, Try.ntmps50
  go_upto_region 1 with (first | ((with_reducible refine gate_dst (N := 8) rfl ?_); (try (refine gate_guard (by rfl) ?_; dsimp only)); refine boxE_ (cs := #[.int .u64 0, .int .u64 0, .int .u64 0, .int .u64 0]) (t := 29) ?_; intro gb528 hg w6 hbox hb; have BK528 := Aside0.mk (hbox); have GW528 := sizeB_ hg; have GE528 := sizeB_ hg; replace HB := stepB_ hb; clear hb hbox hg))
  (try simp only [Act.put, List.setIfInBounds_toArray, List.set_cons_zero, List.set_cons_succ])
  go_cut [26] (fun v26 wc => ∃ (kq : Nat) (x26_4 : Bool), v26 = .bool x26_4 ∧ Aside0 (spec_PathRoot.j0 kq a0 a1 a2 l3 x26_4 = some (r1, r2, r3, r4, r5)) ∧ Aside0 (kq ≤ k) ∧ Aside0 (wc.heap[gb528]? = some (.cells #[.int .u64 0, .int .u64 0, .int .u64 0, .int .u64 0] 29 (0, 0))) ∧ Aside0 (Below w.heap.size w wc))
  case first =>
    have H := HC5.out
    clear HC5
    obtain ⟨t529, A7, H⟩ := bnd_ H
    by_cases c8 : t529 = true
    · subst c8
      rw [if_pos rfl] at H
      by_cases c9 : (a2.size : Int) > 40
      · rw [if_pos c9] at H
        have c9b0 : decide (40 < (a2.size : Int)) = true := decide_eq_true c9
        have c9b1 : decide (40 < a2.size) = true := decide_eq_true (by omega)
        clear c9
        (first | rw [c9b0] | (simp only [i64_w, i32_w]; rw [c9b0]) | skip)
        have H' := Aside0.mk H
        clear H
        go_wp2_with (first | ((with_reducible refine gate_callee (f := 100) rfl ?_); refine goL_ (some 12) Try.func100 #[.int .i64 a0, .int .i64 a1] ?_; (with_reducible refine (spec_l3Place.calls a0 a1 true _ A7.out).mono ?_); rintro e w' ⟨rfl, ⟨nd, rfl⟩⟩; refine ⟨_, rfl, ?_⟩))
        go_meet
        case rel => exact ⟨_, (true), (by first | rfl | (simp; done) | (simp [*]; done)), H', ⟨by first | omega | exact Nat.le_refl _⟩, ⟨blkU_ BK528.out⟩, ⟨bel_⟩⟩
      · rw [if_neg c9] at H
        have c9b0 : decide (40 < (a2.size : Int)) = false := decide_eq_false c9
        have c9b1 : decide (40 < a2.size) = false := decide_eq_false (by omega)
        clear c9
        (first | rw [c9b0] | (simp only [i64_w, i32_w]; rw [c9b0]) | skip)
        obtain ⟨t530, A10, H⟩ := bnd_ H
        have H' := Aside0.mk H
        clear H
        go_wp2_with (first | ((with_reducible refine gate_callee (f := 100) rfl ?_); refine goL_ (some 12) Try.func100 #[.int .i64 a0, .int .i64 a1] ?_; (with_reducible refine (spec_l3Place.calls a0 a1 true _ A7.out).mono ?_); rintro e w' ⟨rfl, ⟨nd, rfl⟩⟩; refine ⟨_, rfl, ?_⟩) | (go_at_call 85; (with_reducible refine (spec_PathLen.calls k a0 a1 t530 _ A10.out).mono ?_); rintro e w' ⟨rfl, ⟨nd, rfl⟩⟩))
        go_meet
        case rel => exact ⟨_, (((l3.length : Int) != t530)), (by first | rfl | (simp; done) | (simp [*]; done)), H', ⟨by first | omega | exact Nat.le_refl _⟩, ⟨blkU_ BK528.out⟩, ⟨bel_⟩⟩
    · replace c8 := Bool.eq_false_iff.mpr c8
      subst c8
      rw [if_neg (show ¬ (false = true) by decide)] at H
      have H' := Aside0.mk H
      clear H
      go_wp2_with (first | ((with_reducible refine gate_callee (f := 100) rfl ?_); refine goL_ (some 12) Try.func100 #[.int .i64 a0, .int .i64 a1] ?_; (with_reducible refine (spec_l3Place.calls a0 a1 false _ A7.out).mono ?_); rintro e w' ⟨rfl, ⟨nd, rfl⟩⟩; refine ⟨_, rfl, ?_⟩))
      go_meet
      case rel => exact ⟨_, (true), (by first | rfl | (simp; done) | (simp [*]; done)), H', ⟨by first | omega | exact Nat.le_refl _⟩, ⟨blkU_ BK528.out⟩, ⟨bel_⟩⟩
  case rest =>
    clear HC5
    (try clear c3); (try clear c8); (try clear c9); (try clear c9b0); (try clear c9b1)
    obtain ⟨kq, x26_4, rfl, HA, HJ4, BK528, HB⟩ := hcut
    cases kq with
    | zero => exact absurd HA.out (by simp [spec_PathRoot.j0])
    | succ kj4 =>
      have H := HA.out
      clear HA
      simp only [spec_PathRoot.j0] at H
      by_cases c11 : x26_4 = true
      · subst c11
        rw [if_pos rfl] at H
        simp only [Option.some.injEq, Prod.mk.injEq] at H
        obtain ⟨rfl, rfl, rfl, rfl, rfl⟩ := H
        obtain ⟨hcz12_0, hcz12_1, hcz12_2, hcz12_3, hfz12_0, hfz12_1, hfz12_2, hfz12_3⟩ := cz4_ BK528.out
        go_wp2
        refine bodyPost_ret (results_ct rfl _ _ gb528 29 #[.int .u64 0, .int .u64 0, .int .u64 0, .int .u64 0] (0, 0) _ rfl (blkF_ BK528.out) Try.underlying29 rfl (by kernel_rfl)) rfl ?_
        exact ⟨rfl_, bel_⟩
      · replace c11 := Bool.eq_false_iff.mpr c11
        subst c11
        rw [if_neg (show ¬ (false = true) by decide)] at H
        obtain ⟨⟨t531, t532, t533, t534⟩, A13, H⟩ := bnd_ H
        dsimp only at H
        obtain ⟨⟨t535, t536, t537, t538⟩, A14, H⟩ := bnd_ H
        dsimp only at H
        simp only [Option.some.injEq, Prod.mk.injEq] at H
        obtain ⟨rfl, rfl, rfl, rfl, rfl⟩ := H
        go_wp2_with (first | ((with_reducible refine gate_callee (f := 102) rfl ?_); refine goL_ (some 31) Try.func102 #[.string a2] ?_; (with_reducible refine (spec_HashLeaf.calls kj4 a2 t531 t532 t533 t534 _ A13.out).mono ?_); rintro e w15 ⟨rfl, hb⟩; refine ⟨_, rfl, ?_⟩; replace BK528 := blkBel_ BK528.out hb; replace HB := stepB_ hb; (try clear hb)) | ((with_reducible refine gate_callee (f := 101) rfl ?_); refine goL_ (some 33) Try.func101 #[.int .i64 a0, .int .i64 a1, .agg #[.int .u64 t531, .int .u64 t532, .int .u64 t533, .int .u64 t534], .slice A3 l3.length c3] ?_; (with_reducible refine (spec_l3Up.calls kj4 a0 a1 t531 t532 t533 t534 _ _ l3 t535 t536 t537 t538 _ ?side1 ?side2 A14.out).mono ?_); (case side1 => repeat (first | exact (Kd.C_below HR3.out HB.out) | (with_reducible refine Kd.C_alloc ?_ _) | (with_reducible refine Kd.C_drewN ?_ _) | (with_reducible refine Kd.C_drew ?_))); (case side2 => exact HC3.out); rintro e w16 ⟨rfl, hb⟩; refine ⟨_, rfl, ?_⟩; replace BK528 := blkBel_ BK528.out hb; replace HB := stepB_ hb; (try clear hb); obtain ⟨hcz17_0, hcz17_1, hcz17_2, hcz17_3, hfz17_0, hfz17_1, hfz17_2, hfz17_3⟩ := cz4_ BK528.out))
        refine bodyPost_ret (results_ct rfl _ _ gb528 29 #[.int .u64 t535, .int .u64 t536, .int .u64 t537, .int .u64 t538] (0, 0) _ rfl (blkF_ BK528.out) Try.underlying29 rfl (by kernel_rfl)) rfl ?_
        exact ⟨rfl_, bel_⟩

end
section
/-! ### impl_pathOk: function 103 -/
def impl_pathOk.f (k : Nat) (a0 : Int) (a1 : Int) (a2 : ByteArray) (l3 : List (S29)) : Option (Bool) := (impl_PathLen.f k a0 a1).bind fun t716 => (if t716 ≥ 0 then (if (a2.size : Int) ≤ 40 then (some ((l3.length : Int) == t716)) else (some false)) else (some false))
theorem impl_pathOk.mono : ∀ a0 a1 a2 a3 k, LeO (impl_pathOk.f k a0 a1 a2 a3) (impl_pathOk.f (k + 1) a0 a1 a2 a3) := by
  intro a0 a1 a2 a3 k
  unfold impl_pathOk.f
  repeat' first | (with_reducible first | exact impl_PathLen.mono _ _ _ | exact LeO.refl _ | exact LeO.none _ | refine LeO.ite ?_ ?_ | refine LeO.bind ?_ (fun _ => ?_)) | exact LeO.none _ | refine LeO.ite ?_ ?_ | refine LeO.bind ?_ (fun _ => ?_)
set_option maxHeartbeats 8000000 in
set_option maxRecDepth 100000 in
theorem impl_pathOk.calls (k : Nat) (a0 : Int) (a1 : Int) (a2 : ByteArray) (A3 : Option Addr) (c3 : Nat) (l3 : List (S29)) (r : Bool) (w : World) (hr3 : Kd.C k29 w A3 l3.length l3) (hc3 : l3.length ≤ c3) (h : impl_pathOk.f k a0 a1 a2 l3 = some r) :
    Calls Try.prog 103 #[.int .i64 a0, .int .i64 a1, .string a2, .slice A3 l3.length c3] w fun e w' => e = .returned (.bool r) ∧ Below w.heap.size w w' := by
  have HR3 := Aside0.mk hr3
  have HC3 := Aside0.mk hc3
  clear hr3 hc3
  have HB := Aside0.mk (Below.refl w.heap.size w)
  have H : ((impl_PathLen.f k a0 a1).bind fun t716 => (if t716 ≥ 0 then (if (a2.size : Int) ≤ 40 then (some ((l3.length : Int) == t716)) else (some false)) else (some false))) = some r := h
  clear h
  obtain ⟨t716, A5, H⟩ := bnd_ H
  by_cases c6 : t716 ≥ 0
  · rw [if_pos c6] at H
    have c6b0 : decide (0 ≤ t716) = true := decide_eq_true c6
    clear c6
    by_cases c7 : (a2.size : Int) ≤ 40
    · rw [if_pos c7] at H
      have c7b0 : decide ((a2.size : Int) ≤ 40) = true := decide_eq_true c7
      have c7b1 : decide (a2.size ≤ 40) = true := decide_eq_true (by omega)
      clear c7
      obtain rfl := Option.some.inj H
      go_enter Try.func103, Try.ntmps103
      go_wp2_with (first | ((with_reducible refine gate_callee (f := 84) rfl ?_); refine goL_ (some 12) Try.func84 #[.int .i64 a0, .int .i64 a1] ?_; (with_reducible refine (impl_PathLen.calls k a0 a1 t716 _ A5.out).mono ?_); rintro e w8 ⟨rfl, hb⟩; refine ⟨_, rfl, ?_⟩; replace HB := stepB_ hb; (try clear hb)))
      go_ret
      exact ⟨rfl_, bel_⟩
    · rw [if_neg c7] at H
      have c7b0 : decide ((a2.size : Int) ≤ 40) = false := decide_eq_false c7
      have c7b1 : decide (a2.size ≤ 40) = false := decide_eq_false (by omega)
      clear c7
      obtain rfl := Option.some.inj H
      go_enter Try.func103, Try.ntmps103
      go_wp2_with (first | ((with_reducible refine gate_callee (f := 84) rfl ?_); refine goL_ (some 12) Try.func84 #[.int .i64 a0, .int .i64 a1] ?_; (with_reducible refine (impl_PathLen.calls k a0 a1 t716 _ A5.out).mono ?_); rintro e w9 ⟨rfl, hb⟩; refine ⟨_, rfl, ?_⟩; replace HB := stepB_ hb; (try clear hb)))
      go_ret
      exact ⟨rfl_, bel_⟩
  · rw [if_neg c6] at H
    have c6b0 : decide (0 ≤ t716) = false := decide_eq_false c6
    clear c6
    obtain rfl := Option.some.inj H
    go_enter Try.func103, Try.ntmps103
    go_wp2_with (first | ((with_reducible refine gate_callee (f := 84) rfl ?_); refine goL_ (some 12) Try.func84 #[.int .i64 a0, .int .i64 a1] ?_; (with_reducible refine (impl_PathLen.calls k a0 a1 t716 _ A5.out).mono ?_); rintro e w10 ⟨rfl, hb⟩; refine ⟨_, rfl, ?_⟩; replace HB := stepB_ hb; (try clear hb)))
    go_ret
    exact ⟨rfl_, bel_⟩

end
end Go.Proofs.Ytemfciflhbhobaa.B
