/- What the Go functions loop.example/belfry/impl.ChainEnd do is what the Lean functions .f of their names here say; condition: .f gives an answer. (Written by the session's program pp.py over the kit's print; Lean checks it.) -/
import Derived.Test.YtflckegggopdnaaZCEK
import Derived.Test.YtflckegggopdnaaZCEM
import Derived.Test.YtflckegggopdnaaZCEFImplGrowthCheck
namespace Go.Proofs.Ytflckegggopdnaa.B
open Go.RowKit Go.Proofs.YtflckegggopdnaaW.PrintWords Go.Proofs.YtflckegggopdnaaW.PrintLast Go.Proofs.YtflckegggopdnaaW.PrintMore
attribute [local go_sem] max2_int min2_int max_two min_two max_three min_three max_four min_four
set_option linter.unusedVariables false
set_option linter.unusedSimpArgs false
section
def impl_ChainEnd.l0 : Nat → List (S51) → Int → Int → Int → Int → Int → Int → Int → Option (Int × Int × Int × Int × Int × Bool)
  | 0, _, _, _, _, _, _, _, _ => none
  | k + 1, x14, x15, x16, x498000, x498001, x498002, x498003, x498004 => if x16 < x15 then (if 0 ≤ x16 then (if x16 < (x14.length : Int) then ((impl_GrowthCheck.f k x498000 x498001 x498002 x498003 x498004 ((rd_T51 x14 x16).f0.f0) ((rd_T51 x14 x16).f0.f1.f0) ((rd_T51 x14 x16).f0.f1.f1) ((rd_T51 x14 x16).f0.f1.f2) ((rd_T51 x14 x16).f0.f1.f3) ((rd_T51 x14 x16).f1)).bind fun t500 => (if t500 = 0 then (impl_ChainEnd.l0 k x14 x15 (wrap64 (x16 + 1)) ((rd_T51 x14 x16).f0.f0) ((rd_T51 x14 x16).f0.f1.f0) ((rd_T51 x14 x16).f0.f1.f1) ((rd_T51 x14 x16).f0.f1.f2) ((rd_T51 x14 x16).f0.f1.f3)) else (some (0, 0, 0, 0, 0, false)))) else (none)) else (none)) else (some (x498000, x498001, x498002, x498003, x498004, true))
def impl_ChainEnd.f (k : Nat) (a0_0 : Int) (a0_1 : Int) (a0_2 : Int) (a0_3 : Int) (a0_4 : Int) (l1 : List (S51)) : Option (Int × Int × Int × Int × Int × Bool) := if (l1.length : Int) > 256 then (some (0, 0, 0, 0, 0, false)) else (impl_ChainEnd.l0 k l1 (l1.length : Int) 0 a0_0 a0_1 a0_2 a0_3 a0_4)
set_option maxHeartbeats 8000000 in
set_option maxRecDepth 100000 in
theorem impl_ChainEnd.calls (k : Nat) (a0_0 : Int) (a0_1 : Int) (a0_2 : Int) (a0_3 : Int) (a0_4 : Int) (A1 : Option Addr) (c1 : Nat) (l1 : List (S51)) (r1 : Int) (r2 : Int) (r3 : Int) (r4 : Int) (r5 : Int) (r6 : Bool) (w : World) (hr1 : Kd.C k51 w A1 l1.length l1) (hc1 : l1.length ≤ c1) (h : impl_ChainEnd.f k a0_0 a0_1 a0_2 a0_3 a0_4 l1 = some (r1, r2, r3, r4, r5, r6)) :
    Calls Try.prog 14 #[.agg #[.int .i64 a0_0, .int .u64 a0_1, .int .u64 a0_2, .int .u64 a0_3, .int .u64 a0_4], .slice A1 l1.length c1] w fun e w' => e = .returned (.tuple #[.agg #[.int .i64 r1, .int .u64 r2, .int .u64 r3, .int .u64 r4, .int .u64 r5], .bool r6]) ∧ Below w.heap.size w w' := by
  have hu31 := Try.underlying31
  have hu51 := Try.underlying51
  have HR1 := Aside0.mk hr1
  have HC1 := Aside0.mk hc1
  clear hr1 hc1
  have HB := Aside0.mk (Below.refl w.heap.size w)
  have H : (if (l1.length : Int) > 256 then (some (0, 0, 0, 0, 0, false)) else (impl_ChainEnd.l0 k l1 (l1.length : Int) 0 a0_0 a0_1 a0_2 a0_3 a0_4)) = some (r1, r2, r3, r4, r5, r6) := h
  clear h
  by_cases c3 : (l1.length : Int) > 256
  · rw [if_pos c3] at H
    have c3b0 : decide (256 < (l1.length : Int)) = true := decide_eq_true c3
    have c3b1 : decide (256 < l1.length) = true := decide_eq_true (by omega)
    clear c3
    simp only [Option.some.injEq, Prod.mk.injEq] at H
    obtain ⟨rfl, rfl, rfl, rfl, rfl, rfl⟩ := H
    go_enter Try.func14, Try.ntmps14
    go_wp2_with (first | ((with_reducible refine gate_dst (N := 2) rfl ?_); refine boxE_ (cs := #[.int .i64 a0_0, .int .u64 a0_1, .int .u64 a0_2, .int .u64 a0_3, .int .u64 a0_4]) (t := 31) ?_; intro gb495 hg w4 hbox hb; have BK495 := Aside0.mk (hbox); have GW495 := sizeB_ hg; have GE495 := sizeB_ hg; replace HB := stepB_ hb; clear hb hbox hg) | ((with_reducible refine gate_dst (N := 4) rfl ?_); refine boxE_ (cs := #[.int .i64 0, .int .u64 0, .int .u64 0, .int .u64 0, .int .u64 0]) (t := 31) ?_; intro gb496 hg w5 hbox hb; have BK496 := Aside0.mk (hbox); have GW496 := sizeB_ hg; have GE496 := sizeB_ hg; replace HB := stepB_ hb; have NB495_496 := neL_ BK495.out hg; have NB496_495 := neG_ BK495.out hg; replace BK495 := blkBel_ BK495.out hb; clear hb hbox hg; have hnb6 := NB496_495.out; have hnc6 := NB495_496.out; obtain ⟨hcz7_0, hcz7_1, hcz7_2, hcz7_3, hcz7_4, hfz7_0, hfz7_1, hfz7_2, hfz7_3, hfz7_4⟩ := cz5_ BK496.out))
    refine bodyPost_ret (results_ct rfl _ _ gb496 31 #[.int .i64 0, .int .u64 0, .int .u64 0, .int .u64 0, .int .u64 0] (0, 0) _ rfl (blkF_ BK496.out) Try.underlying31 rfl (by kernel_rfl)) rfl ?_
    exact ⟨rfl_, bel_⟩
  · rw [if_neg c3] at H
    have c3b0 : decide (256 < (l1.length : Int)) = false := decide_eq_false c3
    have c3b1 : decide (256 < l1.length) = false := decide_eq_false (by omega)
    clear c3
    have H' := Aside0.mk H
    clear H
    go_enter Try.func14, Try.ntmps14
    go_wp2_with (first | ((with_reducible refine gate_dst (N := 2) rfl ?_); refine boxE_ (cs := #[.int .i64 a0_0, .int .u64 a0_1, .int .u64 a0_2, .int .u64 a0_3, .int .u64 a0_4]) (t := 31) ?_; intro gb495 hg w8 hbox hb; have BK495 := Aside0.mk (hbox); have GW495 := sizeB_ hg; have GE495 := sizeB_ hg; replace HB := stepB_ hb; clear hb hbox hg) | ((with_reducible refine gate_dst (N := 4) rfl ?_); refine boxE_ (cs := #[.int .i64 0, .int .u64 0, .int .u64 0, .int .u64 0, .int .u64 0]) (t := 31) ?_; intro gb496 hg w9 hbox hb; have BK496 := Aside0.mk (hbox); have GW496 := sizeB_ hg; have GE496 := sizeB_ hg; replace HB := stepB_ hb; have NB495_496 := neL_ BK495.out hg; have NB496_495 := neG_ BK495.out hg; replace BK495 := blkBel_ BK495.out hb; clear hb hbox hg; have hnb10 := NB495_496.out; have hnc10 := NB496_495.out; obtain ⟨hcz11_0, hcz11_1, hcz11_2, hcz11_3, hcz11_4, hfz11_0, hfz11_1, hfz11_2, hfz11_3, hfz11_4⟩ := cz5_ BK495.out) | ((with_reducible refine gate_dst (N := 6) rfl ?_); refine boxE_ (cs := #[.int .i64 0, .int .u64 0, .int .u64 0, .int .u64 0, .int .u64 0]) (t := 31) ?_; intro gb497 hg w12 hbox hb; have BK497 := Aside0.mk (hbox); have GW497 := sizeB_ hg; have GE497 := sizeB_ hg; replace HB := stepB_ hb; have NB495_497 := neL_ BK495.out hg; have NB497_495 := neG_ BK495.out hg; replace BK495 := blkBel_ BK495.out hb; have NB496_497 := neL_ BK496.out hg; have NB497_496 := neG_ BK496.out hg; replace BK496 := blkBel_ BK496.out hb; clear hb hbox hg; have hnb13 := NB497_495.out; have hnc13 := NB495_497.out; have hnb14 := NB497_496.out; have hnc14 := NB496_497.out; obtain ⟨hcz15_0, hcz15_1, hcz15_2, hcz15_3, hcz15_4, hfz15_0, hfz15_1, hfz15_2, hfz15_3, hfz15_4⟩ := cz5_ BK497.out))
    go_loopg [16] k (fun kq v16 w' => ∃ (x16_1 : Int) (x497000_1 : Int) (x497001_1 : Int) (x497002_1 : Int) (x497003_1 : Int) (x497004_1 : Int) (x498000_1 : Int) (x498001_1 : Int) (x498002_1 : Int) (x498003_1 : Int) (x498004_1 : Int), v16 = .int .i64 x16_1 ∧ Aside0 (impl_ChainEnd.l0 kq l1 (l1.length : Int) x16_1 x498000_1 x498001_1 x498002_1 x498003_1 x498004_1 = some (r1, r2, r3, r4, r5, r6)) ∧ Aside0 (kq ≤ k) ∧ Aside0 (w'.heap[gb495]? = some (.cells #[.int .i64 a0_0, .int .u64 a0_1, .int .u64 a0_2, .int .u64 a0_3, .int .u64 a0_4] 31 (0, 0))) ∧ Aside0 (w'.heap[gb496]? = some (.cells #[.int .i64 x497000_1, .int .u64 x497001_1, .int .u64 x497002_1, .int .u64 x497003_1, .int .u64 x497004_1] 31 (0, 0))) ∧ Aside0 (w'.heap[gb497]? = some (.cells #[.int .i64 x498000_1, .int .u64 x498001_1, .int .u64 x498002_1, .int .u64 x498003_1, .int .u64 x498004_1] 31 (0, 0))) ∧ Aside0 (Below w.heap.size w w'))
    case atStart => exact ⟨(0), (0), (0), (0), (0), (0), (a0_0), (a0_1), (a0_2), (a0_3), (a0_4), (by first | rfl | (simp; done) | (simp [*]; done)), H', ⟨Nat.le_refl _⟩, ⟨blkU_ BK495.out⟩, ⟨blkU_ BK496.out⟩, ⟨blkF_ BK497.out⟩, ⟨bel_⟩⟩
    case round =>
      clear H'
      (try clear c1); (try clear c3); (try clear c3b0); (try clear c3b1); (try clear hcz11_0); (try clear hcz11_1); (try clear hcz11_2); (try clear hcz11_3); (try clear hcz11_4); (try clear hcz15_0); (try clear hcz15_1); (try clear hcz15_2); (try clear hcz15_3); (try clear hcz15_4); (try clear hcz7_0); (try clear hcz7_1); (try clear hcz7_2); (try clear hcz7_3); (try clear hcz7_4); (try clear hfz11_0); (try clear hfz11_1); (try clear hfz11_2); (try clear hfz11_3); (try clear hfz11_4); (try clear hfz15_0); (try clear hfz15_1); (try clear hfz15_2); (try clear hfz15_3); (try clear hfz15_4); (try clear hfz7_0); (try clear hfz7_1); (try clear hfz7_2); (try clear hfz7_3); (try clear hfz7_4)
      obtain ⟨x16_1, x497000_1, x497001_1, x497002_1, x497003_1, x497004_1, x498000_1, x498001_1, x498002_1, x498003_1, x498004_1, rfl, HA, HK1, BK495, BK496, BK497, HB⟩ := hrel
      cases gk with
      | zero => exact absurd HA.out (by simp [impl_ChainEnd.l0])
      | succ k1 =>
        have H := HA.out
        clear HA
        simp only [impl_ChainEnd.l0] at H
        by_cases c16 : x16_1 < (l1.length : Int)
        · rw [if_pos c16] at H
          have c16b0 : decide (x16_1 < (l1.length : Int)) = true := decide_eq_true c16
          clear c16
          by_cases c17 : 0 ≤ x16_1
          · rw [if_pos c17] at H
            have c17b0 : decide (0 ≤ x16_1) = true := decide_eq_true c17
            clear c17
            by_cases c18 : x16_1 < (l1.length : Int)
            · rw [if_pos c18] at H
              have c18b0 : decide (x16_1 < (l1.length : Int)) = true := decide_eq_true c18
              clear c18
              obtain ⟨t500, A19, H⟩ := bnd_ H
              by_cases c20 : t500 = 0
              · rw [if_pos c20] at H
                have c20b0 : (t500 == 0) = true := beq_iff_eq.mpr c20
                have c20b1 : (t500 != 0) = false := bne_eq_false_iff_eq.mpr c20
                clear c20
                have H' := Aside0.mk H
                clear H
                have p498 : 0 ≤ (x16_1 : Int) := ofd_
                have q498 : x16_1 < (l1.length : Int) := ofd_
                obtain ⟨ad498, A498_5, c498_5, e498, hx498_0, hx498_1, hx498_2, hx498_3, hx498_4, hx498_5, hl498_5, hi498_5⟩ := at_T51 HR1.out x16_1 p498 q498
                cases e498
                replace hx498_0 := pw_cell_below HB.out hx498_0
                replace hx498_1 := pw_cell_below HB.out hx498_1
                replace hx498_2 := pw_cell_below HB.out hx498_2
                replace hx498_3 := pw_cell_below HB.out hx498_3
                replace hx498_4 := pw_cell_below HB.out hx498_4
                replace hx498_5 := pw_cell_below HB.out hx498_5
                have HR498_5 := Aside0.mk hi498_5
                have HC498_5 := Aside0.mk hl498_5
                clear hi498_5 hl498_5
                replace p498 := eq_true p498
                replace q498 := eq_true q498
                go_wp2_with (first | ((with_reducible refine gate_dst (N := 8) rfl ?_); refine boxE_ (cs := #[.int .i64 0, .int .u64 0, .int .u64 0, .int .u64 0, .int .u64 0, .slice none 0 0]) (t := 51) ?_; intro gb499 hg w21 hbox hb; have BK499 := Aside0.mk (hbox); have GW499 := sizeB_ hg; have GE499 := sizeB_ hg; replace HB := stepB_ hb; have NB495_499 := neL_ BK495.out hg; have NB499_495 := neG_ BK495.out hg; replace BK495 := blkBel_ BK495.out hb; have NB496_499 := neL_ BK496.out hg; have NB499_496 := neG_ BK496.out hg; replace BK496 := blkBel_ BK496.out hb; have NB497_499 := neL_ BK497.out hg; have NB499_497 := neG_ BK497.out hg; replace BK497 := blkBel_ BK497.out hb; clear hb hbox hg; have hnb22 := NB499_495.out; have hnc22 := NB495_499.out; have hnb23 := NB499_496.out; have hnc23 := NB496_499.out; have hnb24 := NB499_497.out; have hnc24 := NB497_499.out; obtain ⟨hcz25_0, hcz25_1, hcz25_2, hcz25_3, hcz25_4, hcz25_5, hfz25_0, hfz25_1, hfz25_2, hfz25_3, hfz25_4, hfz25_5⟩ := cz6_ BK499.out; have hnb26 := NB497_495.out; have hnc26 := NB495_497.out; have hnb27 := NB497_496.out; have hnc27 := NB496_497.out; obtain ⟨hcz28_0, hcz28_1, hcz28_2, hcz28_3, hcz28_4, hfz28_0, hfz28_1, hfz28_2, hfz28_3, hfz28_4⟩ := cz5_ BK497.out) | ((with_reducible refine gate_callee (f := 33) rfl ?_); refine goL_ (some 25) Try.func33 #[.agg #[.int .i64 x498000_1, .int .u64 x498001_1, .int .u64 x498002_1, .int .u64 x498003_1, .int .u64 x498004_1], .agg #[.int .i64 ((rd_T51 l1 x16_1).f0.f0), .int .u64 ((rd_T51 l1 x16_1).f0.f1.f0), .int .u64 ((rd_T51 l1 x16_1).f0.f1.f1), .int .u64 ((rd_T51 l1 x16_1).f0.f1.f2), .int .u64 ((rd_T51 l1 x16_1).f0.f1.f3)], .slice A498_5 ((rd_T51 l1 x16_1).f1).length c498_5] ?_; (with_reducible refine (impl_GrowthCheck.calls k1 x498000_1 x498001_1 x498002_1 x498003_1 x498004_1 ((rd_T51 l1 x16_1).f0.f0) ((rd_T51 l1 x16_1).f0.f1.f0) ((rd_T51 l1 x16_1).f0.f1.f1) ((rd_T51 l1 x16_1).f0.f1.f2) ((rd_T51 l1 x16_1).f0.f1.f3) _ _ ((rd_T51 l1 x16_1).f1) t500 _ ?side1 ?side2 A19.out).mono ?_); (case side1 => exact Kd.C_below HR498_5.out bel_); (case side2 => exact HC498_5.out); rintro e w29 ⟨rfl, hb⟩; refine ⟨_, rfl, ?_⟩; replace BK495 := blkBel_ BK495.out hb; replace BK496 := blkBel_ BK496.out hb; replace BK497 := blkBel_ BK497.out hb; replace BK499 := blkPB_ (cs := #[.int .i64 ((rd_T51 l1 x16_1).f0.f0), .int .u64 ((rd_T51 l1 x16_1).f0.f1.f0), .int .u64 ((rd_T51 l1 x16_1).f0.f1.f1), .int .u64 ((rd_T51 l1 x16_1).f0.f1.f2), .int .u64 ((rd_T51 l1 x16_1).f0.f1.f3), .slice A498_5 ((rd_T51 l1 x16_1).f1).length c498_5]) BK499.out hb; replace HB := stepB_ hb; (try clear hb); obtain ⟨hcz30_0, hcz30_1, hcz30_2, hcz30_3, hcz30_4, hcz30_5, hfz30_0, hfz30_1, hfz30_2, hfz30_3, hfz30_4, hfz30_5⟩ := cz6_ BK499.out; obtain ⟨hcz31_0, hcz31_1, hcz31_2, hcz31_3, hcz31_4, hfz31_0, hfz31_1, hfz31_2, hfz31_3, hfz31_4⟩ := cz5_ BK497.out))
                go_roundg k1
                case measure => have := HK1.out; omega
                case rel => exact ⟨(wrap64 (x16_1 + 1)), (x497000_1), (x497001_1), (x497002_1), (x497003_1), (x497004_1), ((rd_T51 l1 x16_1).f0.f0), ((rd_T51 l1 x16_1).f0.f1.f0), ((rd_T51 l1 x16_1).f0.f1.f1), ((rd_T51 l1 x16_1).f0.f1.f2), ((rd_T51 l1 x16_1).f0.f1.f3), (by first | rfl | (simp; done) | (simp [*]; done)), H', ⟨by have := HK1.out; omega⟩, ⟨blkU_ BK495.out⟩, ⟨blkU_ BK496.out⟩, ⟨blkF_ BK497.out⟩, ⟨bel_⟩⟩
              · rw [if_neg c20] at H
                have c20b0 : (t500 == 0) = false := beq_eq_false_iff_ne.mpr c20
                have c20b1 : (t500 != 0) = true := bne_iff_ne.mpr c20
                simp only [Option.some.injEq, Prod.mk.injEq] at H
                obtain ⟨rfl, rfl, rfl, rfl, rfl, rfl⟩ := H
                have p498 : 0 ≤ (x16_1 : Int) := ofd_
                have q498 : x16_1 < (l1.length : Int) := ofd_
                obtain ⟨ad498, A498_5, c498_5, e498, hx498_0, hx498_1, hx498_2, hx498_3, hx498_4, hx498_5, hl498_5, hi498_5⟩ := at_T51 HR1.out x16_1 p498 q498
                cases e498
                replace hx498_0 := pw_cell_below HB.out hx498_0
                replace hx498_1 := pw_cell_below HB.out hx498_1
                replace hx498_2 := pw_cell_below HB.out hx498_2
                replace hx498_3 := pw_cell_below HB.out hx498_3
                replace hx498_4 := pw_cell_below HB.out hx498_4
                replace hx498_5 := pw_cell_below HB.out hx498_5
                have HR498_5 := Aside0.mk hi498_5
                have HC498_5 := Aside0.mk hl498_5
                clear hi498_5 hl498_5
                replace p498 := eq_true p498
                replace q498 := eq_true q498
                go_wp2_with (first | ((with_reducible refine gate_dst (N := 8) rfl ?_); refine boxE_ (cs := #[.int .i64 0, .int .u64 0, .int .u64 0, .int .u64 0, .int .u64 0, .slice none 0 0]) (t := 51) ?_; intro gb499 hg w32 hbox hb; have BK499 := Aside0.mk (hbox); have GW499 := sizeB_ hg; have GE499 := sizeB_ hg; replace HB := stepB_ hb; have NB495_499 := neL_ BK495.out hg; have NB499_495 := neG_ BK495.out hg; replace BK495 := blkBel_ BK495.out hb; have NB496_499 := neL_ BK496.out hg; have NB499_496 := neG_ BK496.out hg; replace BK496 := blkBel_ BK496.out hb; have NB497_499 := neL_ BK497.out hg; have NB499_497 := neG_ BK497.out hg; replace BK497 := blkBel_ BK497.out hb; clear hb hbox hg; have hnb33 := NB499_495.out; have hnc33 := NB495_499.out; have hnb34 := NB499_496.out; have hnc34 := NB496_499.out; have hnb35 := NB499_497.out; have hnc35 := NB497_499.out; obtain ⟨hcz36_0, hcz36_1, hcz36_2, hcz36_3, hcz36_4, hcz36_5, hfz36_0, hfz36_1, hfz36_2, hfz36_3, hfz36_4, hfz36_5⟩ := cz6_ BK499.out; have hnb37 := NB497_495.out; have hnc37 := NB495_497.out; have hnb38 := NB497_496.out; have hnc38 := NB496_497.out; obtain ⟨hcz39_0, hcz39_1, hcz39_2, hcz39_3, hcz39_4, hfz39_0, hfz39_1, hfz39_2, hfz39_3, hfz39_4⟩ := cz5_ BK497.out) | ((with_reducible refine gate_callee (f := 33) rfl ?_); refine goL_ (some 25) Try.func33 #[.agg #[.int .i64 x498000_1, .int .u64 x498001_1, .int .u64 x498002_1, .int .u64 x498003_1, .int .u64 x498004_1], .agg #[.int .i64 ((rd_T51 l1 x16_1).f0.f0), .int .u64 ((rd_T51 l1 x16_1).f0.f1.f0), .int .u64 ((rd_T51 l1 x16_1).f0.f1.f1), .int .u64 ((rd_T51 l1 x16_1).f0.f1.f2), .int .u64 ((rd_T51 l1 x16_1).f0.f1.f3)], .slice A498_5 ((rd_T51 l1 x16_1).f1).length c498_5] ?_; (with_reducible refine (impl_GrowthCheck.calls k1 x498000_1 x498001_1 x498002_1 x498003_1 x498004_1 ((rd_T51 l1 x16_1).f0.f0) ((rd_T51 l1 x16_1).f0.f1.f0) ((rd_T51 l1 x16_1).f0.f1.f1) ((rd_T51 l1 x16_1).f0.f1.f2) ((rd_T51 l1 x16_1).f0.f1.f3) _ _ ((rd_T51 l1 x16_1).f1) t500 _ ?side1 ?side2 A19.out).mono ?_); (case side1 => exact Kd.C_below HR498_5.out bel_); (case side2 => exact HC498_5.out); rintro e w40 ⟨rfl, hb⟩; refine ⟨_, rfl, ?_⟩; replace BK495 := blkBel_ BK495.out hb; replace BK496 := blkBel_ BK496.out hb; replace BK497 := blkBel_ BK497.out hb; replace BK499 := blkPB_ (cs := #[.int .i64 ((rd_T51 l1 x16_1).f0.f0), .int .u64 ((rd_T51 l1 x16_1).f0.f1.f0), .int .u64 ((rd_T51 l1 x16_1).f0.f1.f1), .int .u64 ((rd_T51 l1 x16_1).f0.f1.f2), .int .u64 ((rd_T51 l1 x16_1).f0.f1.f3), .slice A498_5 ((rd_T51 l1 x16_1).f1).length c498_5]) BK499.out hb; replace HB := stepB_ hb; (try clear hb); have hnb41 := NB496_495.out; have hnc41 := NB495_496.out; obtain ⟨hcz42_0, hcz42_1, hcz42_2, hcz42_3, hcz42_4, hfz42_0, hfz42_1, hfz42_2, hfz42_3, hfz42_4⟩ := cz5_ BK496.out))
                refine bodyPost_ret (results_ct rfl _ _ gb496 31 #[.int .i64 0, .int .u64 0, .int .u64 0, .int .u64 0, .int .u64 0] (0, 0) _ rfl (blkF_ BK496.out) Try.underlying31 rfl (by kernel_rfl)) rfl ?_
                exact ⟨rfl_, bel_⟩
            · rw [if_neg c18] at H
              exact absurd H (by simp)
          · rw [if_neg c17] at H
            exact absurd H (by simp)
        · rw [if_neg c16] at H
          have c16b0 : decide (x16_1 < (l1.length : Int)) = false := decide_eq_false c16
          clear c16
          simp only [Option.some.injEq, Prod.mk.injEq] at H
          obtain ⟨rfl, rfl, rfl, rfl, rfl, rfl⟩ := H
          have hnb43 := NB497_495.out
          have hnc43 := NB495_497.out
          have hnb44 := NB497_496.out
          have hnc44 := NB496_497.out
          obtain ⟨hcz45_0, hcz45_1, hcz45_2, hcz45_3, hcz45_4, hfz45_0, hfz45_1, hfz45_2, hfz45_3, hfz45_4⟩ := cz5_ BK497.out
          have hnb46 := NB496_495.out
          have hnc46 := NB495_496.out
          obtain ⟨hcz47_0, hcz47_1, hcz47_2, hcz47_3, hcz47_4, hfz47_0, hfz47_1, hfz47_2, hfz47_3, hfz47_4⟩ := cz5_ BK496.out
          go_wp2
          refine bodyPost_ret (results_ct rfl _ _ gb496 31 #[.int .i64 x498000_1, .int .u64 x498001_1, .int .u64 x498002_1, .int .u64 x498003_1, .int .u64 x498004_1] (0, 0) _ rfl (blkF_ BK496.out) Try.underlying31 rfl (by kernel_rfl)) rfl ?_
          exact ⟨rfl_, bel_⟩
end
end Go.Proofs.Ytflckegggopdnaa.B
