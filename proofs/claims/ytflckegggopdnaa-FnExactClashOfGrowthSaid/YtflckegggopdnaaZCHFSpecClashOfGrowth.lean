/- What the Go functions of these names do; condition: .f gives an answer. -/
import Derived.Test.YtflckegggopdnaaZCHP0
import Derived.Test.YtflckegggopdnaaZCHP18
import Derived.Test.YtflckegggopdnaaZCHP10
import Derived.Test.YtflckegggopdnaaZCHP5
import Derived.Test.YtflckegggopdnaaZCHP7
import Derived.Test.YtflckegggopdnaaZCHGRow1
namespace Go.Proofs.Ytflckegggopdnaa.B
open Go.RowKit Go.Proofs.YtflckegggopdnaaW.PrintWords Go.Proofs.YtflckegggopdnaaW.PrintLast Go.Proofs.YtflckegggopdnaaW.PrintMore
attribute [local go_sem] max2_int min2_int max_two min_two max_three min_three max_four min_four
set_option linter.unusedVariables false
set_option maxHeartbeats 8000000
set_option maxRecDepth 100000
set_option linter.unusedSimpArgs false
section
mutual
def spec_ClashOfGrowth.j0 : Nat → Int → ByteArray → List (S29) → Bool → Int → Int → Int → Int → Int → Int → Int → Int → Int → Int → List (S29) → Option (ByteArray × ByteArray × Bool)
 | 0, _, _, _, _, _, _, _, _, _, _, _, _, _, _, _ => none
 | k + 1, x2, x3, x4, x28, x741000, x741001, x741002, x741003, x741004, x742000, x742001, x742002, x742003, x742004, x742005 => if x28 = true then (some ((⟨#[]⟩ : ByteArray), (⟨#[]⟩ : ByteArray), false)) else ((spec_GrowthLift.f k x741000 x742000 x2 x4 x742005).bind fun bt745 => (if bt745.2 = true then ((spec_PathCheck.f k x742000 x742001 x742002 x742003 x742004 x2 x3 bt745.1).bind fun t749 => (spec_ClashOfGrowth.j1 k x2 x3 x4 t749 x741000 x741001 x741002 x741003 x741004 x742000 x742001 x742002 x742003 x742004 x742005)) else (spec_ClashOfGrowth.j1 k x2 x3 x4 true x741000 x741001 x741002 x741003 x741004 x742000 x742001 x742002 x742003 x742004 x742005)))
def spec_ClashOfGrowth.j1 : Nat → Int → ByteArray → List (S29) → Bool → Int → Int → Int → Int → Int → Int → Int → Int → Int → Int → List (S29) → Option (ByteArray × ByteArray × Bool)
 | 0, _, _, _, _, _, _, _, _, _, _, _, _, _, _, _ => none
 | k + 1, x2, x3, x4, x52, x741000, x741001, x741002, x741003, x741004, x742000, x742001, x742002, x742003, x742004, x742005 => if x52 = true then (some ((⟨#[]⟩ : ByteArray), (⟨#[]⟩ : ByteArray), false)) else ((spec_l4Down.f k x741000 x2 x3 x4).bind fun t750 => ((spec_PeaksCount.f k x741000).bind fun t753 => (if 0 ≤ t753 then (if t753 ≤ (x742005.length : Int) then ((spec_l4Peaks.f k x741000 x2 (x742005.take (t753 : Int).toNat)).bind fun t758 => ((spec_ClashFirst.f k t750 t758).bind fun bt761 => (some (bt761.1, bt761.2.1, bt761.2.2)))) else (none)) else (none))))
end
def spec_ClashOfGrowth.f (k : Nat) (a0_0 a0_1 : Int) (a0_2 a0_3 : Int) (a0_4 a1_0 : Int) (a1_1 a1_2 : Int) (a1_3 a1_4 : Int) (l1_5 : List (S29)) (a2 : Int) (a3 : ByteArray) (l4 : List (S29)) : Option (ByteArray × ByteArray × Bool) := (spec_PathCheck.f k a0_0 a0_1 a0_2 a0_3 a0_4 a2 a3 l4).bind fun t743 => (if t743 = true then ((spec_GrowthCheck.f k a0_0 a0_1 a0_2 a0_3 a0_4 a1_0 a1_1 a1_2 a1_3 a1_4 l1_5).bind fun t744 => (spec_ClashOfGrowth.j0 k a2 a3 l4 (t744 != 0) a0_0 a0_1 a0_2 a0_3 a0_4 a1_0 a1_1 a1_2 a1_3 a1_4 l1_5)) else (spec_ClashOfGrowth.j0 k a2 a3 l4 true a0_0 a0_1 a0_2 a0_3 a0_4 a1_0 a1_1 a1_2 a1_3 a1_4 l1_5))
def spec_ClashOfGrowth.T6 : Bool × List (List Nat × List Nat) := (true, [([], []), ([0], [0]), ([], []), ([], []), ([], []), ([1, 2, 3, 4], [1, 2, 3, 4]), ([], []), ([6], [6]), ([], []), ([], []), ([9], [9]), ([], []), ([11], [11]), ([12, 5], [12]), ([10, 13], [10, 13]), ([7, 8, 14, 13], [7, 8, 14]), ([5, 15, 15], [5, 15]), ([16], [16]), ([16], [16]), ([17, 16, 0, 1, 2, 3, 4, 5, 6, 7, 8, 9, 10, 11, 12, 13, 14, 15, 16, 17, 18], [17]), ([18, 19, 0, 1, 2, 3, 4, 5, 6, 7, 8, 9, 10, 11, 12, 13, 14, 15, 16, 17, 18, 19], [18])])
def spec_ClashOfGrowth.B6 : List Nat := [0, 1, 0, 0, 0, 31, 0, 64, 0, 0, 512, 0, 2048, 6207, 15935, 32767, 65535, 131071, 131071, 524287, 1048575]
theorem spec_ClashOfGrowth.tab6 : rtab .any (opsOf Try.f19 6) = spec_ClashOfGrowth.T6 := by kernel_rfl
theorem spec_ClashOfGrowth.bits6 : waitsOk spec_ClashOfGrowth.T6.2 spec_ClashOfGrowth.B6 = true := by kernel_rfl
theorem spec_ClashOfGrowth.calls (k : Nat) (a0_0 a0_1 : Int) (a0_2 a0_3 : Int) (a0_4 a1_0 : Int) (a1_1 a1_2 : Int) (a1_3 a1_4 : Int) (A1_5 : Option Addr) (c1_5 : Nat) (l1_5 : List (S29)) (a2 : Int) (a3 : ByteArray) (A4 : Option Addr) (c4 : Nat) (l4 : List (S29)) (r1 r2 : ByteArray) (r3 : Bool) (w : World) (hr1_5 : Kd.C k29 w A1_5 l1_5.length l1_5) (hc1_5 : l1_5.length ≤ c1_5) (hr4 : Kd.C k29 w A4 l4.length l4) (hc4 : l4.length ≤ c4) (h : spec_ClashOfGrowth.f k a0_0 a0_1 a0_2 a0_3 a0_4 a1_0 a1_1 a1_2 a1_3 a1_4 l1_5 a2 a3 l4 = some (r1, r2, r3)) :
  Calls Try.prog 19 #[.agg #[.int .i64 a0_0, .int .u64 a0_1, .int .u64 a0_2, .int .u64 a0_3, .int .u64 a0_4], .agg #[.int .i64 a1_0, .int .u64 a1_1, .int .u64 a1_2, .int .u64 a1_3, .int .u64 a1_4, .slice A1_5 l1_5.length c1_5], .int .i64 a2, .string a3, .slice A4 l4.length c4] w fun e w' => e = .returned (.tuple #[.agg #[.string r1, .string r2], .bool r3]) ∧ Below w.heap.size w w' := by
 have hu31 := Try.underlying31
 have hu51 := Try.underlying51
 have hu46 := Try.underlying46
 have HR1_5 := Aside0.mk hr1_5
 have HC1_5 := Aside0.mk hc1_5
 clear hr1_5 hc1_5
 have HR4 := Aside0.mk hr4
 have HC4 := Aside0.mk hc4
 clear hr4 hc4
 have HB := a_ (Below.refl w.heap.size w)
 have H := h
 unfold spec_ClashOfGrowth.f at H
 clear h
 have HC6 := Aside0.mk H
 clear H
 go_enter Try.func19, Try.ntmps19
 go_upto_region 1 with (first | ((with_reducible refine gate_dst (N := 5) rfl ?_); refine boxE_ (cs := #[.int .i64 a0_0, .int .u64 a0_1, .int .u64 a0_2, .int .u64 a0_3, .int .u64 a0_4]) (t := 31) ?_; intro gb740 hg w7 hbox hb; have BK740 := a_ (hbox); have GW740 := sizeB_ hg; replace HB := stepB_ hb; clear hb hbox hg) | ((with_reducible refine gate_dst (N := 6) rfl ?_); refine boxE_ (cs := #[.int .i64 a1_0, .int .u64 a1_1, .int .u64 a1_2, .int .u64 a1_3, .int .u64 a1_4, .slice A1_5 l1_5.length c1_5]) (t := 51) ?_; intro gb741 hg w8 hbox hb; have BK741 := a_ (hbox); have GW741 := sizeB_ hg; replace HB := stepB_ hb; obtain ⟨NB740_741, NB741_740⟩ := ne2_ BK740.out hg; replace BK740 := bb_ BK740.out hb; clear hb hbox hg) | ((with_reducible refine gate_dst (N := 10) rfl ?_); refine boxE_ (cs := #[.string (⟨#[]⟩ : ByteArray), .string (⟨#[]⟩ : ByteArray)]) (t := 46) ?_; intro gb742 hg w9 hbox hb; have BK742 := a_ (hbox); have GW742 := sizeB_ hg; replace HB := stepB_ hb; obtain ⟨NB740_742, NB742_740⟩ := ne2_ BK740.out hg; replace BK740 := bb_ BK740.out hb; obtain ⟨NB741_742, NB742_741⟩ := ne2_ BK741.out hg; replace BK741 := bb_ BK741.out hb; clear hb hbox hg))
 (try simp only [Act.put, List.setIfInBounds_toArray, List.set_cons_zero, List.set_cons_succ])
 go_cut [28] (fun v28 wc => ∃ (kq : Nat) (x28_5 : Bool), v28 = .bool x28_5 ∧ Aside0 (spec_ClashOfGrowth.j0 kq a2 a3 l4 x28_5 a0_0 a0_1 a0_2 a0_3 a0_4 a1_0 a1_1 a1_2 a1_3 a1_4 l1_5 = some (r1, r2, r3)) ∧ Aside0 (kq ≤ k) ∧ Aside0 (wc.heap[gb740]? = some (.cells #[.int .i64 a0_0, .int .u64 a0_1, .int .u64 a0_2, .int .u64 a0_3, .int .u64 a0_4] 31 (0, 0))) ∧ Aside0 (wc.heap[gb741]? = some (.cells #[.int .i64 a1_0, .int .u64 a1_1, .int .u64 a1_2, .int .u64 a1_3, .int .u64 a1_4, (.slice A1_5 l1_5.length c1_5)] 51 (0, 0))) ∧ Aside0 (wc.heap[gb742]? = some (.cells #[.string (⟨#[]⟩ : ByteArray), .string (⟨#[]⟩ : ByteArray)] 46 (0, 0))) ∧ Aside0 (Below w.heap.size w wc))
 case first =>
  have H := HC6.out
  clear HC6
  obtain ⟨t743, A10, H⟩ := bnd_ H
  by_cases c11 : t743 = true
  ·subst c11
   rw [if_pos rfl] at H
   obtain ⟨t744, A12, H⟩ := bnd_ H
   have H' := Aside0.mk H
   clear H
   have hnb13 := NB740_741.out
   have hnc13 := NB741_740.out
   have hnb14 := NB740_742.out
   have hnc14 := NB742_740.out
   obtain ⟨z15_0, z15_1, z15_2, z15_3, z15_4, f15_0, f15_1, f15_2, f15_3, f15_4⟩ := cz5_ BK740.out
   go_wp2_with (first | (refine gcL_ 46 (some 18) Try.func46 #[.agg #[.int .i64 a0_0, .int .u64 a0_1, .int .u64 a0_2, .int .u64 a0_3, .int .u64 a0_4], .int .i64 a2, .string a3, .slice A4 l4.length c4] ?_; (with_reducible refine (spec_PathCheck.calls k a0_0 a0_1 a0_2 a0_3 a0_4 a2 a3 _ _ l4 true _ ?side1 ?side2 A10.out).mono ?_); (case side1 => exact cU_ (Kd.C_below HR4.out HB.out)); (case side2 => exact HC4.out); rintro e w16 ⟨rfl, hb⟩; refine ⟨_, rfl, ?_⟩; replace BK740 := bb_ BK740.out hb; replace BK741 := bb_ BK741.out hb; replace BK742 := bb_ BK742.out hb; replace HB := stepB_ hb; (try clear hb); obtain ⟨z17_0, z17_1, z17_2, z17_3, z17_4, f17_0, f17_1, f17_2, f17_3, f17_4⟩ := cz5_ BK740.out; have hnb18 := NB741_742.out; have hnc18 := NB742_741.out; obtain ⟨z19_0, z19_1, z19_2, z19_3, z19_4, z19_5, f19_0, f19_1, f19_2, f19_3, f19_4, f19_5⟩ := cz6_ BK741.out) | (go_at_call 35; (with_reducible refine (spec_GrowthCheck.calls k a0_0 a0_1 a0_2 a0_3 a0_4 a1_0 a1_1 a1_2 a1_3 a1_4 _ _ l1_5 t744 _ ?side1 ?side2 A12.out).mono ?_); (case side1 => exact cU_ (Kd.C_below HR1_5.out HB.out)); (case side2 => exact HC1_5.out); rintro e w20 ⟨rfl, hb⟩; replace BK740 := bb_ BK740.out hb; replace BK741 := bb_ BK741.out hb; replace BK742 := bb_ BK742.out hb; replace HB := stepB_ hb; (try clear hb)))
   go_meet
   case rel => exact ⟨_, ((t744 != 0)), rl_, H', ⟨by first | omega | exact Nat.le_refl _⟩, ⟨blkU_ BK740.out⟩, ⟨blkU_ BK741.out⟩, ⟨blkU_ BK742.out⟩, ⟨bel_⟩⟩
  ·replace c11 := Bool.eq_false_iff.mpr c11
   subst c11
   rw [if_neg (show ¬ (false = true) by decide)] at H
   have H' := Aside0.mk H
   clear H
   have hnb21 := NB740_741.out
   have hnc21 := NB741_740.out
   have hnb22 := NB740_742.out
   have hnc22 := NB742_740.out
   obtain ⟨z23_0, z23_1, z23_2, z23_3, z23_4, f23_0, f23_1, f23_2, f23_3, f23_4⟩ := cz5_ BK740.out
   go_wp2_with (first | (refine gcL_ 46 (some 18) Try.func46 #[.agg #[.int .i64 a0_0, .int .u64 a0_1, .int .u64 a0_2, .int .u64 a0_3, .int .u64 a0_4], .int .i64 a2, .string a3, .slice A4 l4.length c4] ?_; (with_reducible refine (spec_PathCheck.calls k a0_0 a0_1 a0_2 a0_3 a0_4 a2 a3 _ _ l4 false _ ?side1 ?side2 A10.out).mono ?_); (case side1 => exact cU_ (Kd.C_below HR4.out HB.out)); (case side2 => exact HC4.out); rintro e w24 ⟨rfl, hb⟩; refine ⟨_, rfl, ?_⟩; replace BK740 := bb_ BK740.out hb; replace BK741 := bb_ BK741.out hb; replace BK742 := bb_ BK742.out hb; replace HB := stepB_ hb; (try clear hb)))
   go_meet
   case rel => exact ⟨_, (true), rl_, H', ⟨by first | omega | exact Nat.le_refl _⟩, ⟨blkU_ BK740.out⟩, ⟨blkU_ BK741.out⟩, ⟨blkU_ BK742.out⟩, ⟨bel_⟩⟩
 case rest =>
  clear HC6
  (try clear c4); (try clear c11); (try clear z15_0 z15_1 z15_2 z15_3 z15_4); (try clear z17_0 z17_1 z17_2 z17_3 z17_4); (try clear z19_0 z19_1 z19_2 z19_3 z19_4 z19_5); (try clear z23_0 z23_1 z23_2 z23_3 z23_4); (try clear f15_0 f15_1 f15_2 f15_3 f15_4); (try clear f17_0 f17_1 f17_2 f17_3 f17_4); (try clear f19_0 f19_1 f19_2 f19_3 f19_4 f19_5); (try clear f23_0 f23_1 f23_2 f23_3 f23_4)
  obtain ⟨kq, x28_5, rfl, HA, HJ5, BK740, BK741, BK742, HB⟩ := hcut
  cases kq with
  | zero => exact absurd HA.out (by simp [spec_ClashOfGrowth.j0])
  | succ kj5 =>
   have H := HA.out
   clear HA
   simp only [spec_ClashOfGrowth.j0] at H
   by_cases c25 : x28_5 = true
   ·subst c25
    rw [if_pos rfl] at H
    simp only [Option.some.injEq, Prod.mk.injEq] at H
    obtain ⟨rfl, rfl, rfl⟩ := H
    have hnb26 := NB742_740.out
    have hnc26 := NB740_742.out
    have hnb27 := NB742_741.out
    have hnc27 := NB741_742.out
    obtain ⟨z28_0, z28_1, f28_0, f28_1⟩ := cz2_ BK742.out
    go_wp2
    refine bodyPost_ret (results_ct rfl _ _ gb742 46 #[.string (⟨#[]⟩ : ByteArray), .string (⟨#[]⟩ : ByteArray)] (0, 0) _ rfl (blkF_ BK742.out) Try.underlying46 rfl (by kernel_rfl)) rfl ?_
    exact ⟨rfl_, bel_⟩
   ·replace c25 := Bool.eq_false_iff.mpr c25
    subst c25
    rw [if_neg (show ¬ (false = true) by decide)] at H
    obtain ⟨⟨t745, t746⟩, A29, H⟩ := bnd_ H
    dsimp only at H
    have HC30 := Aside0.mk H
    clear H
    have hnb31 := NB740_741.out
    have hnc31 := NB741_740.out
    have hnb32 := NB740_742.out
    have hnc32 := NB742_740.out
    obtain ⟨z33_0, z33_1, z33_2, z33_3, z33_4, f33_0, f33_1, f33_2, f33_3, f33_4⟩ := cz5_ BK740.out
    have hnb34 := NB741_742.out
    have hnc34 := NB742_741.out
    obtain ⟨z35_0, z35_1, z35_2, z35_3, z35_4, z35_5, f35_0, f35_1, f35_2, f35_3, f35_4, f35_5⟩ := cz6_ BK741.out
    go_upto_region 4 with (first | (refine gcL_ 41 (some 40) Try.func41 #[.int .i64 a0_0, .int .i64 a1_0, .int .i64 a2, .slice A4 l4.length c4, .slice A1_5 l1_5.length c1_5] ?_; (with_reducible refine (spec_GrowthLift.calls kj5 a0_0 a1_0 a2 _ _ l4 _ _ l1_5 t745 t746 _ ?side1 ?side2 ?side3 ?side4 A29.out).mono ?_); (case side1 => exact cU_ (Kd.C_below HR4.out HB.out)); (case side2 => exact HC4.out); (case side3 => exact cU_ (Kd.C_below HR1_5.out HB.out)); (case side4 => exact HC1_5.out); rintro e w36 ⟨v747, rfl, ho0, hb⟩; refine ⟨_, rfl, ?_⟩; have HO748 := a_ (Kd.R_lower ho0 (below_size bel_)); replace BK740 := bb_ BK740.out hb; replace BK741 := bb_ BK741.out hb; replace BK742 := bb_ BK742.out hb; replace HB := stepB_ hb; (try clear hb); (try clear ho0)))
    (try simp only [Act.put, List.setIfInBounds_toArray, List.set_cons_zero, List.set_cons_succ])
    go_cut [52] (fun v52 wc => ∃ (kq : Nat) (x52_29 : Bool), v52 = .bool x52_29 ∧ Aside0 (spec_ClashOfGrowth.j1 kq a2 a3 l4 x52_29 a0_0 a0_1 a0_2 a0_3 a0_4 a1_0 a1_1 a1_2 a1_3 a1_4 l1_5 = some (r1, r2, r3)) ∧ Aside0 (kq ≤ kj5) ∧ Aside0 (wc.heap[gb740]? = some (.cells #[.int .i64 a0_0, .int .u64 a0_1, .int .u64 a0_2, .int .u64 a0_3, .int .u64 a0_4] 31 (0, 0))) ∧ Aside0 (wc.heap[gb741]? = some (.cells #[.int .i64 a1_0, .int .u64 a1_1, .int .u64 a1_2, .int .u64 a1_3, .int .u64 a1_4, (.slice A1_5 l1_5.length c1_5)] 51 (0, 0))) ∧ Aside0 (wc.heap[gb742]? = some (.cells #[.string (⟨#[]⟩ : ByteArray), .string (⟨#[]⟩ : ByteArray)] 46 (0, 0))) ∧ Aside0 (Below w.heap.size w wc))
    case first =>
     have H := HC30.out
     clear HC30
     by_cases c37 : t746 = true
     ·subst c37
      rw [if_pos rfl] at H
      obtain ⟨t749, A38, H⟩ := bnd_ H
      have H' := Aside0.mk H
      clear H
      have hnb39 := NB741_740.out
      have hnc39 := NB740_741.out
      have hnb40 := NB741_742.out
      have hnc40 := NB742_741.out
      obtain ⟨z41_0, z41_1, z41_2, z41_3, z41_4, z41_5, f41_0, f41_1, f41_2, f41_3, f41_4, f41_5⟩ := cz6_ BK741.out
      obtain ⟨Ao42, co42, eo42⟩ := Kd.R_slice HO748.out
      subst eo42
      go_wp2_with (first | (go_at_call 46; (with_reducible refine (spec_PathCheck.calls kj5 a1_0 a1_1 a1_2 a1_3 a1_4 a2 a3 _ _ t745 t749 _ ?side1 ?side2 A38.out).mono ?_); (case side1 => exact cU_ (Kd.R_reads' HO748.out).2.2); (case side2 => exact (Kd.R_reads' HO748.out).2.1); rintro e w43 ⟨rfl, hb⟩; replace HO748 := rb_ HO748.out hb; replace BK740 := bb_ BK740.out hb; replace BK741 := bb_ BK741.out hb; replace BK742 := bb_ BK742.out hb; replace HB := stepB_ hb; (try clear hb)))
      go_meet
      case rel => exact ⟨_, (t749), rl_, H', ⟨by have := HJ5.out; first | omega | exact Nat.le_refl _⟩, ⟨blkU_ BK740.out⟩, ⟨blkU_ BK741.out⟩, ⟨blkU_ BK742.out⟩, ⟨bel_⟩⟩
     ·replace c37 := Bool.eq_false_iff.mpr c37
      subst c37
      rw [if_neg (show ¬ (false = true) by decide)] at H
      have H' := Aside0.mk H
      clear H
      go_wp2
      go_meet
      case rel => exact ⟨_, (true), rl_, H', ⟨by have := HJ5.out; first | omega | exact Nat.le_refl _⟩, ⟨blkU_ BK740.out⟩, ⟨blkU_ BK741.out⟩, ⟨blkU_ BK742.out⟩, ⟨bel_⟩⟩
    case rest =>
     clear HC30
     (try clear c4); (try clear c11); (try clear c25); (try clear c37); (try clear z15_0 z15_1 z15_2 z15_3 z15_4); (try clear z17_0 z17_1 z17_2 z17_3 z17_4); (try clear z19_0 z19_1 z19_2 z19_3 z19_4 z19_5); (try clear z23_0 z23_1 z23_2 z23_3 z23_4); (try clear z28_0 z28_1); (try clear z33_0 z33_1 z33_2 z33_3 z33_4); (try clear z35_0 z35_1 z35_2 z35_3 z35_4 z35_5); (try clear z41_0 z41_1 z41_2 z41_3 z41_4 z41_5); (try clear f15_0 f15_1 f15_2 f15_3 f15_4); (try clear f17_0 f17_1 f17_2 f17_3 f17_4); (try clear f19_0 f19_1 f19_2 f19_3 f19_4 f19_5); (try clear f23_0 f23_1 f23_2 f23_3 f23_4); (try clear f28_0 f28_1); (try clear f33_0 f33_1 f33_2 f33_3 f33_4); (try clear f35_0 f35_1 f35_2 f35_3 f35_4 f35_5); (try clear f41_0 f41_1 f41_2 f41_3 f41_4 f41_5)
     obtain ⟨kq, x52_29, rfl, HA, HJ29, BK740, BK741, BK742, HB⟩ := hcut
     cases kq with
     | zero => exact absurd HA.out (by simp [spec_ClashOfGrowth.j1])
     | succ kj29 =>
      have H := HA.out
      clear HA
      simp only [spec_ClashOfGrowth.j1] at H
      by_cases c44 : x52_29 = true
      ·subst c44
       rw [if_pos rfl] at H
       simp only [Option.some.injEq, Prod.mk.injEq] at H
       obtain ⟨rfl, rfl, rfl⟩ := H
       have hnb45 := NB742_740.out
       have hnc45 := NB740_742.out
       have hnb46 := NB742_741.out
       have hnc46 := NB741_742.out
       obtain ⟨z47_0, z47_1, f47_0, f47_1⟩ := cz2_ BK742.out
       go_wp2
       refine bodyPost_ret (results_ct rfl _ _ gb742 46 #[.string (⟨#[]⟩ : ByteArray), .string (⟨#[]⟩ : ByteArray)] (0, 0) _ rfl (blkF_ BK742.out) Try.underlying46 rfl (by kernel_rfl)) rfl ?_
       exact ⟨rfl_, bel_⟩
      ·replace c44 := Bool.eq_false_iff.mpr c44
       subst c44
       rw [if_neg (show ¬ (false = true) by decide)] at H
       obtain ⟨t750, A48, H⟩ := bnd_ H
       obtain ⟨t753, A49, H⟩ := bnd_ H
       by_cases c50 : 0 ≤ t753
       ·rw [if_pos c50] at H
        have c50b0 := eq_true c50
        have c50b1 := decide_eq_true c50
        clear c50
        by_cases c51 : t753 ≤ (l1_5.length : Int)
        ·rw [if_pos c51] at H
         have c51b0 := eq_true c51
         have c51b1 := decide_eq_true c51
         clear c51
         obtain ⟨y754, hy754⟩ : ∃ y_ : List (S29), y_ = (l1_5.take (t753 : Int).toNat) := ⟨_, rfl⟩
         replace H : ((spec_l4Peaks.f kj29 a0_0 a2 y754).bind fun t758 => ((spec_ClashFirst.f kj29 t750 t758).bind fun bt761 => (some (bt761.1, bt761.2.1, bt761.2.2)))) = some (r1, r2, r3) := rpl_ hy754 H
         have Ny754 := Aside0.mk hy754
         clear hy754
         obtain ⟨t758, A52, H⟩ := bnd_ H
         obtain ⟨⟨t761, t762, t763⟩, A53, H⟩ := bnd_ H
         dsimp only at H
         simp only [Option.some.injEq, Prod.mk.injEq] at H
         obtain ⟨rfl, rfl, rfl⟩ := H
         try go_wp2
         replace BK740 := a_ (blk_drew BK740.out)
         replace BK741 := a_ (blk_drew BK741.out)
         replace BK742 := a_ (blk_drew BK742.out)
         replace HB := a_ (below_drew1 HB.out)
         refine start_ (n := 21) (S := fun w' => hdc5_ w' gb740 (.int .i64 a0_0) (.int .u64 a0_1) (.int .u64 a0_2) (.int .u64 a0_3) (.int .u64 a0_4) (hd6_ w' gb741 (.int .i64 a1_0) (.int .u64 a1_1) (.int .u64 a1_2) (.int .u64 a1_3) (.int .u64 a1_4) (.slice A1_5 l1_5.length c1_5))) (ds := []) #[false, false, false, false, false, false, false, false, false, false, false, false, false, false, false, false, false, false, false, false, false] (by kernel_rfl) rfl rfl (hcc5_ BK740.out (hc6_ BK741.out)) (fun hHeld => ?_); refine with_tabW spec_ClashOfGrowth.tab6 spec_ClashOfGrowth.bits6 (fun HT HW_ => ?_)
         generalize wc.drew = w54 at BK740 BK741 BK742 HB hHeld ⊢
         refine pP_ 0 (some 54) (b_ 21 1) HT ?_
         refine pP_ 2 (some 56) (b_ 21 5) HT ?_
         refine pP_ 3 (some 57) (b_ 21 13) HT ?_
         refine pP_ 4 (some 58) (b_ 21 29) HT ?_
         refine pP_ 6 (some 60) (b_ 21 93) HT ?_
         refine pP_ 8 (some 62) (b_ 21 349) HT ?_
         refine pP_ 9 (some 63) (b_ 21 861) HT ?_
         refine pP_ 11 (some 65) (b_ 21 2909) HT ?_
         refine takeP_ 1 (some 55) (b_ 21 2911) HT HW_ hHeld ?_
         refine takeP_ 7 (some 61) (b_ 21 3039) HT HW_ hHeld ?_
         refine takeP_ 10 (some 64) (b_ 21 4063) HT HW_ hHeld ?_
         refine takeP_ 12 (some 66) (b_ 21 8159) HT HW_ hHeld ?_
         refine oneP_ 5 (some 59) (b_ 21 8191) HT (fun K hK => ?_)
         refine goN_ Try.func48 #[.int .i64 a0_0, .int .i64 a2, .string a3, .slice A4 l4.length c4] ?_
         with_reducible refine (spec_l4Down.calls kj29 a0_0 a2 a3 _ _ l4 t750 _ ?side1 ?side2 A48.out).mono ?_
         (case side1 => exact cU_ (Kd.C_below HR4.out HB.out))
         (case side2 => exact HC4.out)
         rintro e w55 ⟨v751, rfl, ho0, hb⟩
         refine ⟨_, rfl, ?_⟩
         have HO752 := a_ (Kd.R_lower ho0 (below_size bel_))
         replace BK740 := bb_ BK740.out hb
         replace BK741 := bb_ BK741.out hb
         replace BK742 := bb_ BK742.out hb
         replace HB := stepB_ hb
         (try clear hb); (try clear ho0)
         refine hK.out _ _ (hcc5_ BK740.out (hc6_ BK741.out)) (fun hHeld => ?_)
         clear hK K
         refine normP_ (some 59) ?_
         refine oneP_ 13 (some 67) (b_ 21 16383) HT (fun K hK => ?_)
         refine goN_ Try.func50 #[.int .i64 a0_0] ?_
         with_reducible refine (spec_PeaksCount.calls kj29 a0_0 t753 _ A49.out).mono ?_
         rintro e w' ⟨rfl, ⟨nd, rfl⟩⟩
         refine ⟨_, rfl, ?_⟩
         have q56 : (t753 : Int) ≤ ((l1_5.length : Int) : Int) := ofd_
         obtain ⟨i056, hi056, _, hsz56, _⟩ := info_parts info29
         have hroom56 : l1_5.length ≤ c1_5 := HC1_5.out
         have hC56 : Kd.C k29 _ A1_5 l1_5.length l1_5 := HR1_5.out
         have hcut56 := cut_to (P := Try.prog) 49 29 .i64 Try.underlying49 hi056 A1_5 l1_5.length c1_5 t753 (ofd_) q56 hroom56
         have hr56 := Kd.C_take (m := (t753 : Int).toNat) hC56 (by omega)
         have hy56 : y754.length = (t753 : Int).toNat := (by rw [Ny754.out, List.length_take]; omega)
         rw [← Ny754.out] at hr56
         rw [← hy56] at hcut56
         have HR757 := Aside0.mk hr56
         have HC757 := a_ (show y754.length ≤ c1_5 from by omega)
         clear hr56 hC56 hroom56 hi056 hsz56
         have KY56 := Aside0.mk hy56
         clear hy56
         replace q56 := eq_true q56
         refine hK.out _ _ (hcc5_ BK740.out (hc6_ BK741.out)) (fun hHeld => ?_)
         clear hK K
         refine normP_ (some 67) ?_
         refine pP_ 14 (some 68) (b_ 21 32767) HT ?_
         refine oneP_ 15 (some 69) (b_ 21 65535) HT (fun K hK => ?_)
         refine goN_ Try.func49 #[.int .i64 a0_0, .int .i64 a2, .slice A1_5 y754.length c1_5] ?_
         with_reducible refine (spec_l4Peaks.calls kj29 a0_0 a2 _ _ y754 t758 _ ?side1 ?side2 A52.out).mono ?_
         (case side1 => exact cU_ (Kd.C_below HR757.out bel_))
         (case side2 => exact HC757.out)
         rintro e w57 ⟨v759, rfl, ho0, hb⟩
         refine ⟨_, rfl, ?_⟩
         have HO760 := a_ (Kd.R_lower (Kd.R_new' ho0 (Kd.R_lt (kdU_ HO752.out))) (below_size bel_))
         replace HO752 := a_ (Kd.R_elder' (kdU_ HO752.out) (Kd.R_base ho0) hb)
         replace BK740 := bb_ BK740.out hb
         replace BK741 := bb_ BK741.out hb
         replace BK742 := bb_ BK742.out hb
         replace HB := stepB_ hb
         (try clear hb); (try clear ho0)
         obtain ⟨Ao58, co58, eo58⟩ := Kd.R_slice HO752.out
         (first | subst eo58 | (injection eo58 with f1_ f2_ f3_; have f4_ := f1_.symm; have f5_ := f3_.symm; clear f1_ f2_ f3_; subst f4_; subst f5_))
         obtain ⟨Ao59, co59, eo59⟩ := Kd.R_slice HO760.out
         (first | subst eo59 | (injection eo59 with f1_ f2_ f3_; have f4_ := f1_.symm; have f5_ := f3_.symm; clear f1_ f2_ f3_; subst f4_; subst f5_))
         refine hK.out _ _ (hcc5_ BK740.out (hc6_ BK741.out)) (fun hHeld => ?_)
         clear hK K
         refine normP_ (some 69) ?_
         refine oneP_ 16 (some 70) (b_ 21 131071) HT (fun K hK => ?_)
         refine goN_ Try.func47 #[.slice Ao58 t750.length co58, .slice Ao59 t758.length co59] ?_
         with_reducible refine (spec_ClashFirst.calls kj29 _ _ t750 _ _ t758 t761 t762 t763 _ ?side1 ?side2 ?side3 ?side4 A53.out).mono ?_
         (case side1 => exact cU_ (Kd.R_reads' HO752.out).2.2)
         (case side2 => exact (Kd.R_reads' HO752.out).2.1)
         (case side3 => exact cU_ (Kd.R_reads' HO760.out).2.2)
         (case side4 => exact (Kd.R_reads' HO760.out).2.1)
         rintro e w60 ⟨rfl, hb⟩
         refine ⟨_, rfl, ?_⟩
         replace HO752 := rb_ HO752.out hb
         replace HO760 := rb_ HO760.out hb
         replace BK740 := bb_ BK740.out hb
         replace BK741 := bb_ BK741.out hb
         replace BK742 := bb_ BK742.out hb
         replace HB := stepB_ hb
         (try clear hb)
         refine hK.out _ _ (hcc5_ BK740.out (hc6_ BK741.out)) (fun hHeld => ?_)
         clear hK K
         refine normP_ (some 70) ?_
         refine pP_ 17 (some 71) (b_ 21 262143) HT ?_
         refine pP_ 18 (some 72) (b_ 21 524287) HT ?_
         refine oneP_ 19 none (b_ 21 1048575) HT (fun K hK => ?_)
         have hs61 : w60.cell? ⟨gb742, 0, none⟩ = some (.string (⟨#[]⟩ : ByteArray)) := (blk_cell BK742.out 0).trans rfl
         have hfs61 := blk_frozen BK742.out 0
         have hns61_0 := NB740_742.out
         have hns61_1 := NB741_742.out
         have hms61_0 := NB742_740.out
         have hms61_1 := NB742_741.out
         have hs62 : w60.cell? ⟨gb742, 1, none⟩ = some (.string (⟨#[]⟩ : ByteArray)) := (blk_cell BK742.out 1).trans rfl
         have hfs62 := blk_frozen BK742.out 1
         have hns62_0 := NB740_742.out
         have hns62_1 := NB741_742.out
         have hms62_0 := NB742_740.out
         have hms62_1 := NB742_741.out
         refine skip_ (w1 := ?_) (by rfl) rfl ?_ ?_
         rotate_left
         ·go_simp
          rfl
         refine hK.out _ _ ⟨(cf2_ NB740_742.out hHeld.1), (cf2_ NB740_742.out hHeld.2.1), (cf2_ NB740_742.out hHeld.2.2.1), (cf2_ NB740_742.out hHeld.2.2.2.1), (cf2_ NB740_742.out hHeld.2.2.2.2.1), (cf2_ NB741_742.out hHeld.2.2.2.2.2.1), (cf2_ NB741_742.out hHeld.2.2.2.2.2.2.1), (cf2_ NB741_742.out hHeld.2.2.2.2.2.2.2.1), (cf2_ NB741_742.out hHeld.2.2.2.2.2.2.2.2.1), (cf2_ NB741_742.out hHeld.2.2.2.2.2.2.2.2.2.1), (cf2_ NB741_742.out hHeld.2.2.2.2.2.2.2.2.2.2)⟩ (fun hHeld => ?_)
         clear hK K
         refine pP_ 20 (some 11) (b_ 21 2097151) HT ?_
         refine done_ (done_of HT.out (by kernel_rfl)) ?_
         try go_wp2
         refine bodyPost_ret (results_ct rfl _ _ gb742 46 #[.string t761, .string t762] (0, 0) _ rfl (blkF_ BK742.out) Try.underlying46 rfl (by kernel_rfl)) rfl ?_
         exact ⟨rfl_, bel_⟩
        ·rw [if_neg c51] at H
         exact absurd H (by simp)
       ·rw [if_neg c50] at H
        exact absurd H (by simp)
end
end Go.Proofs.Ytflckegggopdnaa.B
