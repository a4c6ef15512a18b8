/- What the Go functions loop.example/belfry/spec.ChainEnd do is what the Lean functions .f of their names here say; condition: .f gives an answer. (Written by the session's program pp.py over the kit's print; Lean checks it.) -/
import Derived.Test.YtflckegggopdnaaZCEK
import Derived.Test.YtflckegggopdnaaZCEM
import Derived.Test.YtflckegggopdnaaZCEFSpecGrowthCheck
namespace Go.Proofs.Ytflckegggopdnaa.B
open Go.RowKit Go.Proofs.YtflckegggopdnaaW.PrintWords Go.Proofs.YtflckegggopdnaaW.PrintLast Go.Proofs.YtflckegggopdnaaW.PrintMore
attribute [local go_sem] max2_int min2_int max_two min_two max_three min_three max_four min_four
set_option linter.unusedVariables false
set_option linter.unusedSimpArgs false
section
def spec_ChainEnd.l0 : Nat → List (S51) → Int → Int → Int → Int → Int → Int → Option (Int × Int × Int × Int × Int × Bool)
  | 0, _, _, _, _, _, _, _ => none
  | k + 1, x1, x7, x229000, x229001, x229002, x229003, x229004 => if x7 < (x1.length : Int) then (if 0 ≤ x7 then ((spec_GrowthCheck.f k x229000 x229001 x229002 x229003 x229004 ((rd_T51 x1 x7).f0.f0) ((rd_T51 x1 x7).f0.f1.f0) ((rd_T51 x1 x7).f0.f1.f1) ((rd_T51 x1 x7).f0.f1.f2) ((rd_T51 x1 x7).f0.f1.f3) ((rd_T51 x1 x7).f1)).bind fun t231 => (if t231 = 0 then (spec_ChainEnd.l0 k x1 (wrap64 (x7 + 1)) ((rd_T51 x1 x7).f0.f0) ((rd_T51 x1 x7).f0.f1.f0) ((rd_T51 x1 x7).f0.f1.f1) ((rd_T51 x1 x7).f0.f1.f2) ((rd_T51 x1 x7).f0.f1.f3)) else (some (0, 0, 0, 0, 0, false)))) else (none)) else (some (x229000, x229001, x229002, x229003, x229004, true))
def spec_ChainEnd.f (k : Nat) (a0_0 : Int) (a0_1 : Int) (a0_2 : Int) (a0_3 : Int) (a0_4 : Int) (l1 : List (S51)) : Option (Int × Int × Int × Int × Int × Bool) := if (l1.length : Int) > 256 then (some (0, 0, 0, 0, 0, false)) else (spec_ChainEnd.l0 k l1 0 a0_0 a0_1 a0_2 a0_3 a0_4)
def spec_ChainEnd.T7 : Bool × List (List Nat × List Nat) := (true, [([], []), ([], []), ([], []), ([1, 2], [1, 2]), ([3], [3]), ([4], [4]), ([], []), ([], []), ([6, 7], [6, 7]), ([8], [8]), ([9], [9]), ([0, 5, 10], [0, 5, 10]), ([11], [11])])
def spec_ChainEnd.B7 : List Nat := [0, 0, 0, 6, 14, 30, 0, 0, 192, 448, 960, 2047, 4095]
theorem spec_ChainEnd.tab7 : rtab .any (opsOf Try.f11 7) = spec_ChainEnd.T7 := by kernel_rfl
theorem spec_ChainEnd.bits7 : waitsOk spec_ChainEnd.T7.2 spec_ChainEnd.B7 = true := by kernel_rfl
set_option maxHeartbeats 8000000 in
set_option maxRecDepth 100000 in
theorem spec_ChainEnd.calls (k : Nat) (a0_0 : Int) (a0_1 : Int) (a0_2 : Int) (a0_3 : Int) (a0_4 : Int) (A1 : Option Addr) (c1 : Nat) (l1 : List (S51)) (r1 : Int) (r2 : Int) (r3 : Int) (r4 : Int) (r5 : Int) (r6 : Bool) (w : World) (hr1 : Kd.C k51 w A1 l1.length l1) (hc1 : l1.length ≤ c1) (h : spec_ChainEnd.f k a0_0 a0_1 a0_2 a0_3 a0_4 l1 = some (r1, r2, r3, r4, r5, r6)) :
    Calls Try.prog 11 #[.agg #[.int .i64 a0_0, .int .u64 a0_1, .int .u64 a0_2, .int .u64 a0_3, .int .u64 a0_4], .slice A1 l1.length c1] w fun e w' => e = .returned (.tuple #[.agg #[.int .i64 r1, .int .u64 r2, .int .u64 r3, .int .u64 r4, .int .u64 r5], .bool r6]) ∧ Below w.heap.size w w' := by
  have hu31 := Try.underlying31
  have HR1 := Aside0.mk hr1
  have HC1 := Aside0.mk hc1
  clear hr1 hc1
  have HB := Aside0.mk (Below.refl w.heap.size w)
  have H : (if (l1.length : Int) > 256 then (some (0, 0, 0, 0, 0, false)) else (spec_ChainEnd.l0 k l1 0 a0_0 a0_1 a0_2 a0_3 a0_4)) = some (r1, r2, r3, r4, r5, r6) := h
  clear h
  by_cases c3 : (l1.length : Int) > 256
  · rw [if_pos c3] at H
    have c3b0 : decide (256 < (l1.length : Int)) = true := decide_eq_true c3
    have c3b1 : decide (256 < l1.length) = true := decide_eq_true (by omega)
    clear c3
    simp only [Option.some.injEq, Prod.mk.injEq] at H
    obtain ⟨rfl, rfl, rfl, rfl, rfl, rfl⟩ := H
    go_enter Try.func11, Try.ntmps11
    go_wp2_with (first | ((with_reducible refine gate_dst (N := 2) rfl ?_); refine boxE_ (cs := #[.int .i64 a0_0, .int .u64 a0_1, .int .u64 a0_2, .int .u64 a0_3, .int .u64 a0_4]) (t := 31) ?_; intro gb226 hg w4 hbox hb; have BK226 := Aside0.mk (hbox); have GW226 := sizeB_ hg; have GE226 := sizeB_ hg; replace HB := stepB_ hb; clear hb hbox hg) | ((with_reducible refine gate_dst (N := 4) rfl ?_); refine boxE_ (cs := #[.int .i64 0, .int .u64 0, .int .u64 0, .int .u64 0, .int .u64 0]) (t := 31) ?_; intro gb227 hg w5 hbox hb; have BK227 := Aside0.mk (hbox); have GW227 := sizeB_ hg; have GE227 := sizeB_ hg; replace HB := stepB_ hb; have NB226_227 := neL_ BK226.out hg; have NB227_226 := neG_ BK226.out hg; replace BK226 := blkBel_ BK226.out hb; clear hb hbox hg; have hnb6 := NB227_226.out; have hnc6 := NB226_227.out; obtain ⟨hcz7_0, hcz7_1, hcz7_2, hcz7_3, hcz7_4, hfz7_0, hfz7_1, hfz7_2, hfz7_3, hfz7_4⟩ := cz5_ BK227.out))
    refine bodyPost_ret (results_ct rfl _ _ gb227 31 #[.int .i64 0, .int .u64 0, .int .u64 0, .int .u64 0, .int .u64 0] (0, 0) _ rfl (blkF_ BK227.out) Try.underlying31 rfl (by kernel_rfl)) rfl ?_
    exact ⟨rfl_, bel_⟩
  · rw [if_neg c3] at H
    have c3b0 : decide (256 < (l1.length : Int)) = false := decide_eq_false c3
    have c3b1 : decide (256 < l1.length) = false := decide_eq_false (by omega)
    clear c3
    have H' := Aside0.mk H
    clear H
    go_enter Try.func11, Try.ntmps11
    go_wp2_with (first | ((with_reducible refine gate_dst (N := 2) rfl ?_); refine boxE_ (cs := #[.int .i64 a0_0, .int .u64 a0_1, .int .u64 a0_2, .int .u64 a0_3, .int .u64 a0_4]) (t := 31) ?_; intro gb226 hg w8 hbox hb; have BK226 := Aside0.mk (hbox); have GW226 := sizeB_ hg; have GE226 := sizeB_ hg; replace HB := stepB_ hb; clear hb hbox hg) | ((with_reducible refine gate_dst (N := 4) rfl ?_); refine boxE_ (cs := #[.int .i64 0, .int .u64 0, .int .u64 0, .int .u64 0, .int .u64 0]) (t := 31) ?_; intro gb227 hg w9 hbox hb; have BK227 := Aside0.mk (hbox); have GW227 := sizeB_ hg; have GE227 := sizeB_ hg; replace HB := stepB_ hb; have NB226_227 := neL_ BK226.out hg; have NB227_226 := neG_ BK226.out hg; replace BK226 := blkBel_ BK226.out hb; clear hb hbox hg; have hnb10 := NB226_227.out; have hnc10 := NB227_226.out; obtain ⟨hcz11_0, hcz11_1, hcz11_2, hcz11_3, hcz11_4, hfz11_0, hfz11_1, hfz11_2, hfz11_3, hfz11_4⟩ := cz5_ BK226.out) | ((with_reducible refine gate_dst (N := 6) rfl ?_); refine boxE_ (cs := #[.int .i64 0, .int .u64 0, .int .u64 0, .int .u64 0, .int .u64 0]) (t := 31) ?_; intro gb228 hg w12 hbox hb; have BK228 := Aside0.mk (hbox); have GW228 := sizeB_ hg; have GE228 := sizeB_ hg; replace HB := stepB_ hb; have NB226_228 := neL_ BK226.out hg; have NB228_226 := neG_ BK226.out hg; replace BK226 := blkBel_ BK226.out hb; have NB227_228 := neL_ BK227.out hg; have NB228_227 := neG_ BK227.out hg; replace BK227 := blkBel_ BK227.out hb; clear hb hbox hg; have hnb13 := NB228_226.out; have hnc13 := NB226_228.out; have hnb14 := NB228_227.out; have hnc14 := NB227_228.out; obtain ⟨hcz15_0, hcz15_1, hcz15_2, hcz15_3, hcz15_4, hfz15_0, hfz15_1, hfz15_2, hfz15_3, hfz15_4⟩ := cz5_ BK228.out))
    go_loopg [7] k (fun kq v7 w' => ∃ (x7_1 : Int) (x228000_1 : Int) (x228001_1 : Int) (x228002_1 : Int) (x228003_1 : Int) (x228004_1 : Int) (x229000_1 : Int) (x229001_1 : Int) (x229002_1 : Int) (x229003_1 : Int) (x229004_1 : Int), v7 = .int .i64 x7_1 ∧ Aside0 (spec_ChainEnd.l0 kq l1 x7_1 x229000_1 x229001_1 x229002_1 x229003_1 x229004_1 = some (r1, r2, r3, r4, r5, r6)) ∧ Aside0 (kq ≤ k) ∧ Aside0 (w'.heap[gb226]? = some (.cells #[.int .i64 a0_0, .int .u64 a0_1, .int .u64 a0_2, .int .u64 a0_3, .int .u64 a0_4] 31 (0, 0))) ∧ Aside0 (w'.heap[gb227]? = some (.cells #[.int .i64 x228000_1, .int .u64 x228001_1, .int .u64 x228002_1, .int .u64 x228003_1, .int .u64 x228004_1] 31 (0, 0))) ∧ Aside0 (w'.heap[gb228]? = some (.cells #[.int .i64 x229000_1, .int .u64 x229001_1, .int .u64 x229002_1, .int .u64 x229003_1, .int .u64 x229004_1] 31 (0, 0))) ∧ Aside0 (Below w.heap.size w w'))
    case atStart => exact ⟨(0), (0), (0), (0), (0), (0), (a0_0), (a0_1), (a0_2), (a0_3), (a0_4), (by first | rfl | (simp; done) | (simp [*]; done)), H', ⟨Nat.le_refl _⟩, ⟨blkU_ BK226.out⟩, ⟨blkU_ BK227.out⟩, ⟨blkF_ BK228.out⟩, ⟨bel_⟩⟩
    case round =>
      clear H'
      (try clear c1); (try clear c3); (try clear c3b0); (try clear c3b1); (try clear hcz11_0); (try clear hcz11_1); (try clear hcz11_2); (try clear hcz11_3); (try clear hcz11_4); (try clear hcz15_0); (try clear hcz15_1); (try clear hcz15_2); (try clear hcz15_3); (try clear hcz15_4); (try clear hcz7_0); (try clear hcz7_1); (try clear hcz7_2); (try clear hcz7_3); (try clear hcz7_4); (try clear hfz11_0); (try clear hfz11_1); (try clear hfz11_2); (try clear hfz11_3); (try clear hfz11_4); (try clear hfz15_0); (try clear hfz15_1); (try clear hfz15_2); (try clear hfz15_3); (try clear hfz15_4); (try clear hfz7_0); (try clear hfz7_1); (try clear hfz7_2); (try clear hfz7_3); (try clear hfz7_4)
      obtain ⟨x7_1, x228000_1, x228001_1, x228002_1, x228003_1, x228004_1, x229000_1, x229001_1, x229002_1, x229003_1, x229004_1, rfl, HA, HK1, BK226, BK227, BK228, HB⟩ := hrel
      cases gk with
      | zero => exact absurd HA.out (by simp [spec_ChainEnd.l0])
      | succ k1 =>
        have H := HA.out
        clear HA
        simp only [spec_ChainEnd.l0] at H
        by_cases c16 : x7_1 < (l1.length : Int)
        · rw [if_pos c16] at H
          have c16b0 : decide (x7_1 < (l1.length : Int)) = true := decide_eq_true c16
          clear c16
          by_cases c17 : 0 ≤ x7_1
          · rw [if_pos c17] at H
            have c17b0 : decide (0 ≤ x7_1) = true := decide_eq_true c17
            clear c17
            obtain ⟨t231, A18, H⟩ := bnd_ H
            by_cases c19 : t231 = 0
            · rw [if_pos c19] at H
              have c19b0 : (t231 == 0) = true := beq_iff_eq.mpr c19
              have c19b1 : (t231 != 0) = false := bne_eq_false_iff_eq.mpr c19
              clear c19
              have H' := Aside0.mk H
              clear H
              try go_wp2
              replace BK226 := Aside0.mk (blk_drew BK226.out)
              replace BK227 := Aside0.mk (blk_drew BK227.out)
              replace BK228 := Aside0.mk (blk_drew BK228.out)
              replace HB := Aside0.mk (below_drew1 HB.out)
              have p229 : 0 ≤ (x7_1 : Int) := ofd_
              have q229 : x7_1 < (l1.length : Int) := ofd_
              obtain ⟨ad229, A229_5, c229_5, e229, hx229_0, hx229_1, hx229_2, hx229_3, hx229_4, hx229_5, hl229_5, hi229_5⟩ := at_T51 HR1.out x7_1 p229 q229
              have hw229_5 := hx229_5
              have hw229_4 := hx229_4
              have hw229_3 := hx229_3
              have hw229_2 := hx229_2
              have hw229_1 := hx229_1
              have hw229_0 := hx229_0
              cases e229
              replace hx229_0 := pw_cell_below HB.out hx229_0
              replace hx229_1 := pw_cell_below HB.out hx229_1
              replace hx229_2 := pw_cell_below HB.out hx229_2
              replace hx229_3 := pw_cell_below HB.out hx229_3
              replace hx229_4 := pw_cell_below HB.out hx229_4
              replace hx229_5 := pw_cell_below HB.out hx229_5
              have HR229_5 := Aside0.mk hi229_5
              have HC229_5 := Aside0.mk hl229_5
              clear hi229_5 hl229_5
              replace p229 := eq_true p229
              replace q229 := eq_true q229
              have p230 : 0 ≤ (x7_1 : Int) := ofd_
              have q230 : x7_1 < (l1.length : Int) := ofd_
              obtain ⟨ad230, A230_5, c230_5, e230, hx230_0, hx230_1, hx230_2, hx230_3, hx230_4, hx230_5, hl230_5, hi230_5⟩ := at_T51 HR1.out x7_1 p230 q230
              have hw230_5 := hx230_5
              have hw230_4 := hx230_4
              have hw230_3 := hx230_3
              have hw230_2 := hx230_2
              have hw230_1 := hx230_1
              have hw230_0 := hx230_0
              obtain rfl : ad229 = ad230 := (by injection e230)
              replace hx230_0 := pw_cell_below HB.out hx230_0
              replace hx230_1 := pw_cell_below HB.out hx230_1
              replace hx230_2 := pw_cell_below HB.out hx230_2
              replace hx230_3 := pw_cell_below HB.out hx230_3
              replace hx230_4 := pw_cell_below HB.out hx230_4
              replace hx230_5 := pw_cell_below HB.out hx230_5
              have HR230_5 := Aside0.mk hi230_5
              have HC230_5 := Aside0.mk hl230_5
              clear hi230_5 hl230_5
              replace p230 := eq_true p230
              replace q230 := eq_true q230
              have ea_ := Option.some.inj (hx229_5.symm.trans hx230_5)
              injection ea_ with ea_ en_ ec_
              subst ea_
              subst ec_
              clear en_
              refine start_ (n := 13) (S := fun w' => w'.cell? ⟨gb228, 0, none⟩ = some (.int .i64 x229000_1) ∧ w'.cell? ⟨gb228, 1, none⟩ = some (.int .u64 x229001_1) ∧ w'.cell? ⟨gb228, 2, none⟩ = some (.int .u64 x229002_1) ∧ w'.cell? ⟨gb228, 3, none⟩ = some (.int .u64 x229003_1) ∧ w'.cell? ⟨gb228, 4, none⟩ = some (.int .u64 x229004_1) ∧ w'.cell? (ad229.add ((x7_1).toNat * 6)) = some (.int .i64 ((rd_T51 l1 x7_1).f0.f0)) ∧ w'.cell? ⟨(ad229.add ((x7_1).toNat * 6)).block, (ad229.add ((x7_1).toNat * 6)).off + 1, none⟩ = some (.int .u64 ((rd_T51 l1 x7_1).f0.f1.f0)) ∧ w'.cell? ⟨(ad229.add ((x7_1).toNat * 6)).block, (ad229.add ((x7_1).toNat * 6)).off + 2, none⟩ = some (.int .u64 ((rd_T51 l1 x7_1).f0.f1.f1)) ∧ w'.cell? ⟨(ad229.add ((x7_1).toNat * 6)).block, (ad229.add ((x7_1).toNat * 6)).off + 3, none⟩ = some (.int .u64 ((rd_T51 l1 x7_1).f0.f1.f2)) ∧ w'.cell? ⟨(ad229.add ((x7_1).toNat * 6)).block, (ad229.add ((x7_1).toNat * 6)).off + 4, none⟩ = some (.int .u64 ((rd_T51 l1 x7_1).f0.f1.f3)) ∧ w'.cell? ⟨(ad229.add ((x7_1).toNat * 6)).block, (ad229.add ((x7_1).toNat * 6)).off + 5, none⟩ = some (.slice A229_5 ((rd_T51 l1 x7_1).f1).length c229_5) ∧ w'.cell? (ad229.add ((x7_1).toNat * 6)) = some (.int .i64 ((rd_T51 l1 x7_1).f0.f0)) ∧ w'.cell? ⟨(ad229.add ((x7_1).toNat * 6)).block, (ad229.add ((x7_1).toNat * 6)).off + 1, none⟩ = some (.int .u64 ((rd_T51 l1 x7_1).f0.f1.f0)) ∧ w'.cell? ⟨(ad229.add ((x7_1).toNat * 6)).block, (ad229.add ((x7_1).toNat * 6)).off + 2, none⟩ = some (.int .u64 ((rd_T51 l1 x7_1).f0.f1.f1)) ∧ w'.cell? ⟨(ad229.add ((x7_1).toNat * 6)).block, (ad229.add ((x7_1).toNat * 6)).off + 3, none⟩ = some (.int .u64 ((rd_T51 l1 x7_1).f0.f1.f2)) ∧ w'.cell? ⟨(ad229.add ((x7_1).toNat * 6)).block, (ad229.add ((x7_1).toNat * 6)).off + 4, none⟩ = some (.int .u64 ((rd_T51 l1 x7_1).f0.f1.f3)) ∧ w'.cell? ⟨(ad229.add ((x7_1).toNat * 6)).block, (ad229.add ((x7_1).toNat * 6)).off + 5, none⟩ = some (.slice A229_5 ((rd_T51 l1 x7_1).f1).length c229_5)) (ds := []) #[false, false, false, false, false, false, false, false, false, false, false, false, false] (by kernel_rfl) rfl rfl ⟨(blk_cell BK228.out 0).trans rfl, (blk_cell BK228.out 1).trans rfl, (blk_cell BK228.out 2).trans rfl, (blk_cell BK228.out 3).trans rfl, (blk_cell BK228.out 4).trans rfl, (pw_cell_below HB.out hw229_0), (pw_cell_below HB.out hw229_1), (pw_cell_below HB.out hw229_2), (pw_cell_below HB.out hw229_3), (pw_cell_below HB.out hw229_4), (pw_cell_below HB.out hw229_5), (pw_cell_below HB.out hw230_0), (pw_cell_below HB.out hw230_1), (pw_cell_below HB.out hw230_2), (pw_cell_below HB.out hw230_3), (pw_cell_below HB.out hw230_4), (pw_cell_below HB.out hw230_5)⟩ (fun hHeld => ?_); refine with_tabW spec_ChainEnd.tab7 spec_ChainEnd.bits7 (fun HT_ HW_ => ?_)
              generalize wr.drew = w20 at BK226 BK227 BK228 HB HR229_5 HR230_5 hx229_0 hx229_1 hx229_2 hx229_3 hx229_4 hx229_5 hx230_0 hx230_1 hx230_2 hx230_3 hx230_4 hx230_5 hHeld ⊢
              refine pureP_ 1 (some 20) #[false, true, false, false, false, false, false, false, false, false, false, false, false] HT_ ?_
              refine pureP_ 2 (some 21) #[false, true, true, false, false, false, false, false, false, false, false, false, false] HT_ ?_
              refine pureP_ 3 (some 22) #[false, true, true, true, false, false, false, false, false, false, false, false, false] HT_ ?_
              refine pureP_ 4 (some 23) #[false, true, true, true, true, false, false, false, false, false, false, false, false] HT_ ?_
              refine pureP_ 6 (some 25) #[false, true, true, true, true, false, true, false, false, false, false, false, false] HT_ ?_
              refine pureP_ 7 (some 26) #[false, true, true, true, true, false, true, true, false, false, false, false, false] HT_ ?_
              refine pureP_ 8 (some 27) #[false, true, true, true, true, false, true, true, true, false, false, false, false] HT_ ?_
              refine pureP_ 9 (some 28) #[false, true, true, true, true, false, true, true, true, true, false, false, false] HT_ ?_
              refine takeP_ 0 (some 19) #[true, true, true, true, true, false, true, true, true, true, false, false, false] HT_ HW_ hHeld ?_
              refine takeP_ 5 (some 24) #[true, true, true, true, true, true, true, true, true, true, false, false, false] HT_ HW_ hHeld ?_
              refine takeP_ 10 (some 29) #[true, true, true, true, true, true, true, true, true, true, true, false, false] HT_ HW_ hHeld ?_
              refine oneP_ 11 (some 30) #[true, true, true, true, true, true, true, true, true, true, true, true, false] HT_ (fun K hK => ?_)
              refine goN_ Try.func35 #[.agg #[.int .i64 x229000_1, .int .u64 x229001_1, .int .u64 x229002_1, .int .u64 x229003_1, .int .u64 x229004_1], .agg #[.int .i64 ((rd_T51 l1 x7_1).f0.f0), .int .u64 ((rd_T51 l1 x7_1).f0.f1.f0), .int .u64 ((rd_T51 l1 x7_1).f0.f1.f1), .int .u64 ((rd_T51 l1 x7_1).f0.f1.f2), .int .u64 ((rd_T51 l1 x7_1).f0.f1.f3)], .slice A229_5 ((rd_T51 l1 x7_1).f1).length c229_5] ?_
              with_reducible refine (spec_GrowthCheck.calls k1 x229000_1 x229001_1 x229002_1 x229003_1 x229004_1 ((rd_T51 l1 x7_1).f0.f0) ((rd_T51 l1 x7_1).f0.f1.f0) ((rd_T51 l1 x7_1).f0.f1.f1) ((rd_T51 l1 x7_1).f0.f1.f2) ((rd_T51 l1 x7_1).f0.f1.f3) _ _ ((rd_T51 l1 x7_1).f1) t231 _ ?side1 ?side2 A18.out).mono ?_
              (case side1 => repeat (first | exact (Kd.C_below HR230_5.out HB.out) | (with_reducible refine Kd.C_alloc ?_ _) | (with_reducible refine Kd.C_drewN ?_ _) | (with_reducible refine Kd.C_drew ?_)))
              (case side2 => exact HC230_5.out)
              rintro e w21 ⟨rfl, hb⟩
              refine ⟨_, rfl, ?_⟩
              replace BK226 := blkBel_ BK226.out hb
              replace BK227 := blkBel_ BK227.out hb
              replace BK228 := blkBel_ BK228.out hb
              replace HB := stepB_ hb
              (try clear hb)
              refine hK.out _ _ ⟨(blk_cell BK228.out 0).trans rfl, (blk_cell BK228.out 1).trans rfl, (blk_cell BK228.out 2).trans rfl, (blk_cell BK228.out 3).trans rfl, (blk_cell BK228.out 4).trans rfl, (pw_cell_below HB.out hw229_0), (pw_cell_below HB.out hw229_1), (pw_cell_below HB.out hw229_2), (pw_cell_below HB.out hw229_3), (pw_cell_below HB.out hw229_4), (pw_cell_below HB.out hw229_5), (pw_cell_below HB.out hw230_0), (pw_cell_below HB.out hw230_1), (pw_cell_below HB.out hw230_2), (pw_cell_below HB.out hw230_3), (pw_cell_below HB.out hw230_4), (pw_cell_below HB.out hw230_5)⟩ (fun hHeld => ?_)
              clear hK K
              refine norm_ (a' := ?_) ?_ ?_
              rotate_left
              · show Act.put _ (some 30) _ = _
                simp only [Act.put, List.setIfInBounds_toArray, List.set_cons_zero, List.set_cons_succ, i64_w, i32_w]
                rfl
              refine pureP_ 12 (some 31) #[true, true, true, true, true, true, true, true, true, true, true, true, true] HT_ ?_
              refine done_ (done_of HT_.out (by kernel_rfl)) ?_
              have p232 : 0 ≤ (x7_1 : Int) := ofd_
              have q232 : x7_1 < (l1.length : Int) := ofd_
              obtain ⟨ad232, A232_5, c232_5, e232, hx232_0, hx232_1, hx232_2, hx232_3, hx232_4, hx232_5, hl232_5, hi232_5⟩ := at_T51 HR1.out x7_1 p232 q232
              obtain rfl : ad229 = ad232 := (by injection e232)
              replace hx232_0 := pw_cell_below HB.out hx232_0
              replace hx232_1 := pw_cell_below HB.out hx232_1
              replace hx232_2 := pw_cell_below HB.out hx232_2
              replace hx232_3 := pw_cell_below HB.out hx232_3
              replace hx232_4 := pw_cell_below HB.out hx232_4
              replace hx232_5 := pw_cell_below HB.out hx232_5
              have HR232_5 := Aside0.mk hi232_5
              have HC232_5 := Aside0.mk hl232_5
              clear hi232_5 hl232_5
              replace p232 := eq_true p232
              replace q232 := eq_true q232
              have hnb22 := NB228_226.out
              have hnc22 := NB226_228.out
              have hnb23 := NB228_227.out
              have hnc23 := NB227_228.out
              obtain ⟨hcz24_0, hcz24_1, hcz24_2, hcz24_3, hcz24_4, hfz24_0, hfz24_1, hfz24_2, hfz24_3, hfz24_4⟩ := cz5_ BK228.out
              try go_wp2
              go_roundg k1
              case measure => have := HK1.out; omega
              case rel => exact ⟨(wrap64 (x7_1 + 1)), (x228000_1), (x228001_1), (x228002_1), (x228003_1), (x228004_1), ((rd_T51 l1 x7_1).f0.f0), ((rd_T51 l1 x7_1).f0.f1.f0), ((rd_T51 l1 x7_1).f0.f1.f1), ((rd_T51 l1 x7_1).f0.f1.f2), ((rd_T51 l1 x7_1).f0.f1.f3), (by first | rfl | (simp; done) | (simp [*]; done)), H', ⟨by have := HK1.out; omega⟩, ⟨blkU_ BK226.out⟩, ⟨blkU_ BK227.out⟩, ⟨blkF_ BK228.out⟩, ⟨bel_⟩⟩
            · rw [if_neg c19] at H
              have c19b0 : (t231 == 0) = false := beq_eq_false_iff_ne.mpr c19
              have c19b1 : (t231 != 0) = true := bne_iff_ne.mpr c19
              simp only [Option.some.injEq, Prod.mk.injEq] at H
              obtain ⟨rfl, rfl, rfl, rfl, rfl, rfl⟩ := H
              try go_wp2
              replace BK226 := Aside0.mk (blk_drew BK226.out)
              replace BK227 := Aside0.mk (blk_drew BK227.out)
              replace BK228 := Aside0.mk (blk_drew BK228.out)
              replace HB := Aside0.mk (below_drew1 HB.out)
              have p229 : 0 ≤ (x7_1 : Int) := ofd_
              have q229 : x7_1 < (l1.length : Int) := ofd_
              obtain ⟨ad229, A229_5, c229_5, e229, hx229_0, hx229_1, hx229_2, hx229_3, hx229_4, hx229_5, hl229_5, hi229_5⟩ := at_T51 HR1.out x7_1 p229 q229
              have hw229_5 := hx229_5
              have hw229_4 := hx229_4
              have hw229_3 := hx229_3
              have hw229_2 := hx229_2
              have hw229_1 := hx229_1
              have hw229_0 := hx229_0
              cases e229
              replace hx229_0 := pw_cell_below HB.out hx229_0
              replace hx229_1 := pw_cell_below HB.out hx229_1
              replace hx229_2 := pw_cell_below HB.out hx229_2
              replace hx229_3 := pw_cell_below HB.out hx229_3
              replace hx229_4 := pw_cell_below HB.out hx229_4
              replace hx229_5 := pw_cell_below HB.out hx229_5
              have HR229_5 := Aside0.mk hi229_5
              have HC229_5 := Aside0.mk hl229_5
              clear hi229_5 hl229_5
              replace p229 := eq_true p229
              replace q229 := eq_true q229
              have p230 : 0 ≤ (x7_1 : Int) := ofd_
              have q230 : x7_1 < (l1.length : Int) := ofd_
              obtain ⟨ad230, A230_5, c230_5, e230, hx230_0, hx230_1, hx230_2, hx230_3, hx230_4, hx230_5, hl230_5, hi230_5⟩ := at_T51 HR1.out x7_1 p230 q230
              have hw230_5 := hx230_5
              have hw230_4 := hx230_4
              have hw230_3 := hx230_3
              have hw230_2 := hx230_2
              have hw230_1 := hx230_1
              have hw230_0 := hx230_0
              obtain rfl : ad229 = ad230 := (by injection e230)
              replace hx230_0 := pw_cell_below HB.out hx230_0
              replace hx230_1 := pw_cell_below HB.out hx230_1
              replace hx230_2 := pw_cell_below HB.out hx230_2
              replace hx230_3 := pw_cell_below HB.out hx230_3
              replace hx230_4 := pw_cell_below HB.out hx230_4
              replace hx230_5 := pw_cell_below HB.out hx230_5
              have HR230_5 := Aside0.mk hi230_5
              have HC230_5 := Aside0.mk hl230_5
              clear hi230_5 hl230_5
              replace p230 := eq_true p230
              replace q230 := eq_true q230
              have ea_ := Option.some.inj (hx229_5.symm.trans hx230_5)
              injection ea_ with ea_ en_ ec_
              subst ea_
              subst ec_
              clear en_
              refine start_ (n := 13) (S := fun w' => w'.cell? ⟨gb228, 0, none⟩ = some (.int .i64 x229000_1) ∧ w'.cell? ⟨gb228, 1, none⟩ = some (.int .u64 x229001_1) ∧ w'.cell? ⟨gb228, 2, none⟩ = some (.int .u64 x229002_1) ∧ w'.cell? ⟨gb228, 3, none⟩ = some (.int .u64 x229003_1) ∧ w'.cell? ⟨gb228, 4, none⟩ = some (.int .u64 x229004_1) ∧ w'.cell? (ad229.add ((x7_1).toNat * 6)) = some (.int .i64 ((rd_T51 l1 x7_1).f0.f0)) ∧ w'.cell? ⟨(ad229.add ((x7_1).toNat * 6)).block, (ad229.add ((x7_1).toNat * 6)).off + 1, none⟩ = some (.int .u64 ((rd_T51 l1 x7_1).f0.f1.f0)) ∧ w'.cell? ⟨(ad229.add ((x7_1).toNat * 6)).block, (ad229.add ((x7_1).toNat * 6)).off + 2, none⟩ = some (.int .u64 ((rd_T51 l1 x7_1).f0.f1.f1)) ∧ w'.cell? ⟨(ad229.add ((x7_1).toNat * 6)).block, (ad229.add ((x7_1).toNat * 6)).off + 3, none⟩ = some (.int .u64 ((rd_T51 l1 x7_1).f0.f1.f2)) ∧ w'.cell? ⟨(ad229.add ((x7_1).toNat * 6)).block, (ad229.add ((x7_1).toNat * 6)).off + 4, none⟩ = some (.int .u64 ((rd_T51 l1 x7_1).f0.f1.f3)) ∧ w'.cell? ⟨(ad229.add ((x7_1).toNat * 6)).block, (ad229.add ((x7_1).toNat * 6)).off + 5, none⟩ = some (.slice A229_5 ((rd_T51 l1 x7_1).f1).length c229_5) ∧ w'.cell? (ad229.add ((x7_1).toNat * 6)) = some (.int .i64 ((rd_T51 l1 x7_1).f0.f0)) ∧ w'.cell? ⟨(ad229.add ((x7_1).toNat * 6)).block, (ad229.add ((x7_1).toNat * 6)).off + 1, none⟩ = some (.int .u64 ((rd_T51 l1 x7_1).f0.f1.f0)) ∧ w'.cell? ⟨(ad229.add ((x7_1).toNat * 6)).block, (ad229.add ((x7_1).toNat * 6)).off + 2, none⟩ = some (.int .u64 ((rd_T51 l1 x7_1).f0.f1.f1)) ∧ w'.cell? ⟨(ad229.add ((x7_1).toNat * 6)).block, (ad229.add ((x7_1).toNat * 6)).off + 3, none⟩ = some (.int .u64 ((rd_T51 l1 x7_1).f0.f1.f2)) ∧ w'.cell? ⟨(ad229.add ((x7_1).toNat * 6)).block, (ad229.add ((x7_1).toNat * 6)).off + 4, none⟩ = some (.int .u64 ((rd_T51 l1 x7_1).f0.f1.f3)) ∧ w'.cell? ⟨(ad229.add ((x7_1).toNat * 6)).block, (ad229.add ((x7_1).toNat * 6)).off + 5, none⟩ = some (.slice A229_5 ((rd_T51 l1 x7_1).f1).length c229_5)) (ds := []) #[false, false, false, false, false, false, false, false, false, false, false, false, false] (by kernel_rfl) rfl rfl ⟨(blk_cell BK228.out 0).trans rfl, (blk_cell BK228.out 1).trans rfl, (blk_cell BK228.out 2).trans rfl, (blk_cell BK228.out 3).trans rfl, (blk_cell BK228.out 4).trans rfl, (pw_cell_below HB.out hw229_0), (pw_cell_below HB.out hw229_1), (pw_cell_below HB.out hw229_2), (pw_cell_below HB.out hw229_3), (pw_cell_below HB.out hw229_4), (pw_cell_below HB.out hw229_5), (pw_cell_below HB.out hw230_0), (pw_cell_below HB.out hw230_1), (pw_cell_below HB.out hw230_2), (pw_cell_below HB.out hw230_3), (pw_cell_below HB.out hw230_4), (pw_cell_below HB.out hw230_5)⟩ (fun hHeld => ?_); refine with_tabW spec_ChainEnd.tab7 spec_ChainEnd.bits7 (fun HT_ HW_ => ?_)
              generalize wr.drew = w25 at BK226 BK227 BK228 HB HR229_5 HR230_5 hx229_0 hx229_1 hx229_2 hx229_3 hx229_4 hx229_5 hx230_0 hx230_1 hx230_2 hx230_3 hx230_4 hx230_5 hHeld ⊢
              refine pureP_ 1 (some 20) #[false, true, false, false, false, false, false, false, false, false, false, false, false] HT_ ?_
              refine pureP_ 2 (some 21) #[false, true, true, false, false, false, false, false, false, false, false, false, false] HT_ ?_
              refine pureP_ 3 (some 22) #[false, true, true, true, false, false, false, false, false, false, false, false, false] HT_ ?_
              refine pureP_ 4 (some 23) #[false, true, true, true, true, false, false, false, false, false, false, false, false] HT_ ?_
              refine pureP_ 6 (some 25) #[false, true, true, true, true, false, true, false, false, false, false, false, false] HT_ ?_
              refine pureP_ 7 (some 26) #[false, true, true, true, true, false, true, true, false, false, false, false, false] HT_ ?_
              refine pureP_ 8 (some 27) #[false, true, true, true, true, false, true, true, true, false, false, false, false] HT_ ?_
              refine pureP_ 9 (some 28) #[false, true, true, true, true, false, true, true, true, true, false, false, false] HT_ ?_
              refine takeP_ 0 (some 19) #[true, true, true, true, true, false, true, true, true, true, false, false, false] HT_ HW_ hHeld ?_
              refine takeP_ 5 (some 24) #[true, true, true, true, true, true, true, true, true, true, false, false, false] HT_ HW_ hHeld ?_
              refine takeP_ 10 (some 29) #[true, true, true, true, true, true, true, true, true, true, true, false, false] HT_ HW_ hHeld ?_
              refine oneP_ 11 (some 30) #[true, true, true, true, true, true, true, true, true, true, true, true, false] HT_ (fun K hK => ?_)
              refine goN_ Try.func35 #[.agg #[.int .i64 x229000_1, .int .u64 x229001_1, .int .u64 x229002_1, .int .u64 x229003_1, .int .u64 x229004_1], .agg #[.int .i64 ((rd_T51 l1 x7_1).f0.f0), .int .u64 ((rd_T51 l1 x7_1).f0.f1.f0), .int .u64 ((rd_T51 l1 x7_1).f0.f1.f1), .int .u64 ((rd_T51 l1 x7_1).f0.f1.f2), .int .u64 ((rd_T51 l1 x7_1).f0.f1.f3)], .slice A229_5 ((rd_T51 l1 x7_1).f1).length c229_5] ?_
              with_reducible refine (spec_GrowthCheck.calls k1 x229000_1 x229001_1 x229002_1 x229003_1 x229004_1 ((rd_T51 l1 x7_1).f0.f0) ((rd_T51 l1 x7_1).f0.f1.f0) ((rd_T51 l1 x7_1).f0.f1.f1) ((rd_T51 l1 x7_1).f0.f1.f2) ((rd_T51 l1 x7_1).f0.f1.f3) _ _ ((rd_T51 l1 x7_1).f1) t231 _ ?side1 ?side2 A18.out).mono ?_
              (case side1 => repeat (first | exact (Kd.C_below HR230_5.out HB.out) | (with_reducible refine Kd.C_alloc ?_ _) | (with_reducible refine Kd.C_drewN ?_ _) | (with_reducible refine Kd.C_drew ?_)))
              (case side2 => exact HC230_5.out)
              rintro e w26 ⟨rfl, hb⟩
              refine ⟨_, rfl, ?_⟩
              replace BK226 := blkBel_ BK226.out hb
              replace BK227 := blkBel_ BK227.out hb
              replace BK228 := blkBel_ BK228.out hb
              replace HB := stepB_ hb
              (try clear hb)
              refine hK.out _ _ ⟨(blk_cell BK228.out 0).trans rfl, (blk_cell BK228.out 1).trans rfl, (blk_cell BK228.out 2).trans rfl, (blk_cell BK228.out 3).trans rfl, (blk_cell BK228.out 4).trans rfl, (pw_cell_below HB.out hw229_0), (pw_cell_below HB.out hw229_1), (pw_cell_below HB.out hw229_2), (pw_cell_below HB.out hw229_3), (pw_cell_below HB.out hw229_4), (pw_cell_below HB.out hw229_5), (pw_cell_below HB.out hw230_0), (pw_cell_below HB.out hw230_1), (pw_cell_below HB.out hw230_2), (pw_cell_below HB.out hw230_3), (pw_cell_below HB.out hw230_4), (pw_cell_below HB.out hw230_5)⟩ (fun hHeld => ?_)
              clear hK K
              refine norm_ (a' := ?_) ?_ ?_
              rotate_left
              · show Act.put _ (some 30) _ = _
                simp only [Act.put, List.setIfInBounds_toArray, List.set_cons_zero, List.set_cons_succ, i64_w, i32_w]
                rfl
              refine pureP_ 12 (some 31) #[true, true, true, true, true, true, true, true, true, true, true, true, true] HT_ ?_
              refine done_ (done_of HT_.out (by kernel_rfl)) ?_
              have hnb27 := NB227_226.out
              have hnc27 := NB226_227.out
              have hnb28 := NB227_228.out
              have hnc28 := NB228_227.out
              obtain ⟨hcz29_0, hcz29_1, hcz29_2, hcz29_3, hcz29_4, hfz29_0, hfz29_1, hfz29_2, hfz29_3, hfz29_4⟩ := cz5_ BK227.out
              try go_wp2
              refine bodyPost_ret (results_ct rfl _ _ gb227 31 #[.int .i64 0, .int .u64 0, .int .u64 0, .int .u64 0, .int .u64 0] (0, 0) _ rfl (blkF_ BK227.out) Try.underlying31 rfl (by kernel_rfl)) rfl ?_
              exact ⟨rfl_, bel_⟩
          · rw [if_neg c17] at H
            exact absurd H (by simp)
        · rw [if_neg c16] at H
          have c16b0 : decide (x7_1 < (l1.length : Int)) = false := decide_eq_false c16
          clear c16
          simp only [Option.some.injEq, Prod.mk.injEq] at H
          obtain ⟨rfl, rfl, rfl, rfl, rfl, rfl⟩ := H
          have hnb30 := NB228_226.out
          have hnc30 := NB226_228.out
          have hnb31 := NB228_227.out
          have hnc31 := NB227_228.out
          obtain ⟨hcz32_0, hcz32_1, hcz32_2, hcz32_3, hcz32_4, hfz32_0, hfz32_1, hfz32_2, hfz32_3, hfz32_4⟩ := cz5_ BK228.out
          have hnb33 := NB227_226.out
          have hnc33 := NB226_227.out
          obtain ⟨hcz34_0, hcz34_1, hcz34_2, hcz34_3, hcz34_4, hfz34_0, hfz34_1, hfz34_2, hfz34_3, hfz34_4⟩ := cz5_ BK227.out
          go_wp2
          refine bodyPost_ret (results_ct rfl _ _ gb227 31 #[.int .i64 x229000_1, .int .u64 x229001_1, .int .u64 x229002_1, .int .u64 x229003_1, .int .u64 x229004_1] (0, 0) _ rfl (blkF_ BK227.out) Try.underlying31 rfl (by kernel_rfl)) rfl ?_
          exact ⟨rfl_, bel_⟩
end
end Go.Proofs.Ytflckegggopdnaa.B
