/- Texts that this claim's law leans on, without what nothing names. What each says stands at its theorems; conditions stand in them. (Put together by the session's program shake.py; Lean checks it.) -/
import Derived.Test.YtflckegggopdnaaZCHP0
import Derived.Test.YtflckegggopdnaaZCHFImplGrowthCheck
import Derived.Test.YtflckegggopdnaaZCHFImplGrowthLift
import Derived.Test.YtflckegggopdnaaZCHP5
import Derived.Test.YtflckegggopdnaaZCHP7
import Derived.Test.YtflckegggopdnaaZCHGRow1
import Derived.Test.YtflckegggopdnaaZCHP6
import Derived.Test.YtflckegggopdnaaZCHP9
import Derived.Test.YtflckegggopdnaaZCHP2
namespace Go.Proofs.Ytflckegggopdnaa.B
section
open Go.RowKit Go.Proofs.YtflckegggopdnaaW.PrintWords Go.Proofs.YtflckegggopdnaaW.PrintLast Go.Proofs.YtflckegggopdnaaW.PrintMore
attribute [local go_sem] max2_int min2_int max_two min_two max_three min_three max_four min_four
set_option linter.unusedVariables false
set_option maxHeartbeats 8000000
set_option maxRecDepth 100000
set_option linter.unusedSimpArgs false
section
mutual
def impl_ClashOfGrowth.j0 : Nat → Int → ByteArray → List (S29) → Bool → Int → Int → Int → Int → Int → Int → Int → Int → Int → Int → List (S29) → Option (ByteArray × ByteArray × Bool)
 | 0, _, _, _, _, _, _, _, _, _, _, _, _, _, _, _ => none
 | k + 1, x2, x3, x4, x30, x932000, x932001, x932002, x932003, x932004, x933000, x933001, x933002, x933003, x933004, x933005 => if x30 = true then (some ((⟨#[]⟩ : ByteArray), (⟨#[]⟩ : ByteArray), false)) else ((impl_GrowthLift.f k x932000 x933000 x2 x4 x933005).bind fun bt936 => (if bt936.2 = true then ((impl_PathCheck.f k x933000 x933001 x933002 x933003 x933004 x2 x3 bt936.1).bind fun t940 => (impl_ClashOfGrowth.j1 k x2 x3 x4 t940 x932000 x932001 x932002 x932003 x932004 x933000 x933001 x933002 x933003 x933004 x933005)) else (impl_ClashOfGrowth.j1 k x2 x3 x4 true x932000 x932001 x932002 x932003 x932004 x933000 x933001 x933002 x933003 x933004 x933005)))
def impl_ClashOfGrowth.j1 : Nat → Int → ByteArray → List (S29) → Bool → Int → Int → Int → Int → Int → Int → Int → Int → Int → Int → List (S29) → Option (ByteArray × ByteArray × Bool)
 | 0, _, _, _, _, _, _, _, _, _, _, _, _, _, _, _ => none
 | k + 1, x2, x3, x4, x54, x932000, x932001, x932002, x932003, x932004, x933000, x933001, x933002, x933003, x933004, x933005 => if x54 = true then (some ((⟨#[]⟩ : ByteArray), (⟨#[]⟩ : ByteArray), false)) else ((impl_ClashRow.f k x932000 x2 x3 x4).bind fun bt941 => ((impl_PeaksCount.f x932000).bind fun t945 => (if 0 ≤ t945 then (if t945 ≤ (x933005.length : Int) then ((impl_peaksRow.f k x932000 x2 (x933005.take (t945 : Int).toNat)).bind fun t950 => ((impl_ClashFirst.f k bt941.1 t950).bind fun bt953 => (some (bt953.1, bt953.2.1, bt953.2.2)))) else (none)) else (none))))
end
def impl_ClashOfGrowth.f (k : Nat) (a0_0 a0_1 : Int) (a0_2 a0_3 : Int) (a0_4 a1_0 : Int) (a1_1 a1_2 : Int) (a1_3 a1_4 : Int) (l1_5 : List (S29)) (a2 : Int) (a3 : ByteArray) (l4 : List (S29)) : Option (ByteArray × ByteArray × Bool) := (impl_PathCheck.f k a0_0 a0_1 a0_2 a0_3 a0_4 a2 a3 l4).bind fun t934 => (if t934 = true then ((impl_GrowthCheck.f k a0_0 a0_1 a0_2 a0_3 a0_4 a1_0 a1_1 a1_2 a1_3 a1_4 l1_5).bind fun t935 => (impl_ClashOfGrowth.j0 k a2 a3 l4 (t935 != 0) a0_0 a0_1 a0_2 a0_3 a0_4 a1_0 a1_1 a1_2 a1_3 a1_4 l1_5)) else (impl_ClashOfGrowth.j0 k a2 a3 l4 true a0_0 a0_1 a0_2 a0_3 a0_4 a1_0 a1_1 a1_2 a1_3 a1_4 l1_5))
def impl_ClashOfGrowth.T7 : Bool × List (List Nat × List Nat) := (true, [([], []), ([], []), ([1], [1]), ([], []), ([], []), ([4], [4]), ([], []), ([6], [6]), ([7], [7]), ([5, 8], [5, 8]), ([2, 3, 9, 8], [2, 3, 9]), ([0, 10, 10], [0, 10]), ([11], [11]), ([11], [11]), ([12, 11, 0, 1, 2, 3, 4, 5, 6, 7, 8, 9, 10, 11, 12, 13], [12]), ([13, 14, 0, 1, 2, 3, 4, 5, 6, 7, 8, 9, 10, 11, 12, 13, 14], [13])])
def impl_ClashOfGrowth.B7 : List Nat := [0, 0, 2, 0, 0, 16, 0, 64, 192, 496, 1022, 2047, 4095, 4095, 16383, 32767]
theorem impl_ClashOfGrowth.tab7 : rtab .any (opsOf Try.f22 7) = impl_ClashOfGrowth.T7 := by kernel_rfl
theorem impl_ClashOfGrowth.bits7 : waitsOk impl_ClashOfGrowth.T7.2 impl_ClashOfGrowth.B7 = true := by kernel_rfl
theorem impl_ClashOfGrowth.calls (k : Nat) (a0_0 a0_1 : Int) (a0_2 a0_3 : Int) (a0_4 a1_0 : Int) (a1_1 a1_2 : Int) (a1_3 a1_4 : Int) (A1_5 : Option Addr) (c1_5 : Nat) (l1_5 : List (S29)) (a2 : Int) (a3 : ByteArray) (A4 : Option Addr) (c4 : Nat) (l4 : List (S29)) (r1 r2 : ByteArray) (r3 : Bool) (w : World) (hr1_5 : Kd.C k29 w A1_5 l1_5.length l1_5) (hc1_5 : l1_5.length ≤ c1_5) (hr4 : Kd.C k29 w A4 l4.length l4) (hc4 : l4.length ≤ c4) (h : impl_ClashOfGrowth.f k a0_0 a0_1 a0_2 a0_3 a0_4 a1_0 a1_1 a1_2 a1_3 a1_4 l1_5 a2 a3 l4 = some (r1, r2, r3)) :
  Calls Try.prog 22 #[.agg #[.int .i64 a0_0, .int .u64 a0_1, .int .u64 a0_2, .int .u64 a0_3, .int .u64 a0_4], .agg #[.int .i64 a1_0, .int .u64 a1_1, .int .u64 a1_2, .int .u64 a1_3, .int .u64 a1_4, .slice A1_5 l1_5.length c1_5], .int .i64 a2, .string a3, .slice A4 l4.length c4] w fun e w' => e = .returned (.tuple #[.agg #[.string r1, .string r2], .bool r3]) ∧ Below w.heap.size w w' := by
 have hu31 := Try.underlying31
 have hu51 := Try.underlying51
 have hu46 := Try.underlying46
 have HR1_5 := Aside0.mk hr1_5
 have HC1_5 := Aside0.mk hc1_5
 clear hr1_5 hc1_5
 have HR4 := Aside0.mk hr4
 have HC4 := Aside0.mk hc4
 clear hr4 hc4
 have HB := a_ (Below.refl w.heap.size w)
 have H := h
 unfold impl_ClashOfGrowth.f at H
 clear h
 have HC6 := Aside0.mk H
 clear H
 go_enter Try.func22, Try.ntmps22
 go_upto_region 1 with (first | ((with_reducible refine gate_dst (N := 5) rfl ?_); refine boxE_ (cs := #[.int .i64 a0_0, .int .u64 a0_1, .int .u64 a0_2, .int .u64 a0_3, .int .u64 a0_4]) (t := 31) ?_; intro gb931 hg w7 hbox hb; have BK931 := a_ (hbox); have GW931 := sizeB_ hg; replace HB := stepB_ hb; clear hb hbox hg) | ((with_reducible refine gate_dst (N := 6) rfl ?_); refine boxE_ (cs := #[.int .i64 a1_0, .int .u64 a1_1, .int .u64 a1_2, .int .u64 a1_3, .int .u64 a1_4, .slice A1_5 l1_5.length c1_5]) (t := 51) ?_; intro gb932 hg w8 hbox hb; have BK932 := a_ (hbox); have GW932 := sizeB_ hg; replace HB := stepB_ hb; obtain ⟨NB931_932, NB932_931⟩ := ne2_ BK931.out hg; replace BK931 := bb_ BK931.out hb; clear hb hbox hg) | ((with_reducible refine gate_dst (N := 10) rfl ?_); refine boxE_ (cs := #[.string (⟨#[]⟩ : ByteArray), .string (⟨#[]⟩ : ByteArray)]) (t := 46) ?_; intro gb933 hg w9 hbox hb; have BK933 := a_ (hbox); have GW933 := sizeB_ hg; replace HB := stepB_ hb; obtain ⟨NB931_933, NB933_931⟩ := ne2_ BK931.out hg; replace BK931 := bb_ BK931.out hb; obtain ⟨NB932_933, NB933_932⟩ := ne2_ BK932.out hg; replace BK932 := bb_ BK932.out hb; clear hb hbox hg))
 (try simp only [Act.put, List.setIfInBounds_toArray, List.set_cons_zero, List.set_cons_succ])
 go_cut [30] (fun v30 wc => ∃ (kq : Nat) (x30_5 : Bool), v30 = .bool x30_5 ∧ Aside0 (impl_ClashOfGrowth.j0 kq a2 a3 l4 x30_5 a0_0 a0_1 a0_2 a0_3 a0_4 a1_0 a1_1 a1_2 a1_3 a1_4 l1_5 = some (r1, r2, r3)) ∧ Aside0 (kq ≤ k) ∧ Aside0 (wc.heap[gb931]? = some (.cells #[.int .i64 a0_0, .int .u64 a0_1, .int .u64 a0_2, .int .u64 a0_3, .int .u64 a0_4] 31 (0, 0))) ∧ Aside0 (wc.heap[gb932]? = some (.cells #[.int .i64 a1_0, .int .u64 a1_1, .int .u64 a1_2, .int .u64 a1_3, .int .u64 a1_4, (.slice A1_5 l1_5.length c1_5)] 51 (0, 0))) ∧ Aside0 (wc.heap[gb933]? = some (.cells #[.string (⟨#[]⟩ : ByteArray), .string (⟨#[]⟩ : ByteArray)] 46 (0, 0))) ∧ Aside0 (Below w.heap.size w wc))
 case first =>
  have H := HC6.out
  clear HC6
  obtain ⟨t934, A10, H⟩ := bnd_ H
  by_cases c11 : t934 = true
  ·subst c11
   rw [if_pos rfl] at H
   obtain ⟨t935, A12, H⟩ := bnd_ H
   have H' := Aside0.mk H
   clear H
   have hnb13 := NB931_932.out
   have hnc13 := NB932_931.out
   have hnb14 := NB931_933.out
   have hnc14 := NB933_931.out
   obtain ⟨z15_0, z15_1, z15_2, z15_3, z15_4, f15_0, f15_1, f15_2, f15_3, f15_4⟩ := cz5_ BK931.out
   go_wp2_with (first | (refine gcL_ 51 (some 20) Try.func51 #[.agg #[.int .i64 a0_0, .int .u64 a0_1, .int .u64 a0_2, .int .u64 a0_3, .int .u64 a0_4], .int .i64 a2, .string a3, .slice A4 l4.length c4] ?_; (with_reducible refine (impl_PathCheck.calls k a0_0 a0_1 a0_2 a0_3 a0_4 a2 a3 _ _ l4 true _ ?side1 ?side2 A10.out).mono ?_); (case side1 => exact cU_ (Kd.C_below HR4.out HB.out)); (case side2 => exact HC4.out); rintro e w16 ⟨rfl, hb⟩; refine ⟨_, rfl, ?_⟩; replace BK931 := bb_ BK931.out hb; replace BK932 := bb_ BK932.out hb; replace BK933 := bb_ BK933.out hb; replace HB := stepB_ hb; (try clear hb); obtain ⟨z17_0, z17_1, z17_2, z17_3, z17_4, f17_0, f17_1, f17_2, f17_3, f17_4⟩ := cz5_ BK931.out; have hnb18 := NB932_933.out; have hnc18 := NB933_932.out; obtain ⟨z19_0, z19_1, z19_2, z19_3, z19_4, z19_5, f19_0, f19_1, f19_2, f19_3, f19_4, f19_5⟩ := cz6_ BK932.out) | (go_at_call 33; (with_reducible refine (impl_GrowthCheck.calls k a0_0 a0_1 a0_2 a0_3 a0_4 a1_0 a1_1 a1_2 a1_3 a1_4 _ _ l1_5 t935 _ ?side1 ?side2 A12.out).mono ?_); (case side1 => exact cU_ (Kd.C_below HR1_5.out HB.out)); (case side2 => exact HC1_5.out); rintro e w20 ⟨rfl, hb⟩; replace BK931 := bb_ BK931.out hb; replace BK932 := bb_ BK932.out hb; replace BK933 := bb_ BK933.out hb; replace HB := stepB_ hb; (try clear hb)))
   go_meet
   case rel => exact ⟨_, ((t935 != 0)), rl_, H', ⟨by first | omega | exact Nat.le_refl _⟩, ⟨blkU_ BK931.out⟩, ⟨blkU_ BK932.out⟩, ⟨blkU_ BK933.out⟩, ⟨bel_⟩⟩
  ·replace c11 := Bool.eq_false_iff.mpr c11
   subst c11
   rw [if_neg (show ¬ (false = true) by decide)] at H
   have H' := Aside0.mk H
   clear H
   have hnb21 := NB931_932.out
   have hnc21 := NB932_931.out
   have hnb22 := NB931_933.out
   have hnc22 := NB933_931.out
   obtain ⟨z23_0, z23_1, z23_2, z23_3, z23_4, f23_0, f23_1, f23_2, f23_3, f23_4⟩ := cz5_ BK931.out
   go_wp2_with (first | (refine gcL_ 51 (some 20) Try.func51 #[.agg #[.int .i64 a0_0, .int .u64 a0_1, .int .u64 a0_2, .int .u64 a0_3, .int .u64 a0_4], .int .i64 a2, .string a3, .slice A4 l4.length c4] ?_; (with_reducible refine (impl_PathCheck.calls k a0_0 a0_1 a0_2 a0_3 a0_4 a2 a3 _ _ l4 false _ ?side1 ?side2 A10.out).mono ?_); (case side1 => exact cU_ (Kd.C_below HR4.out HB.out)); (case side2 => exact HC4.out); rintro e w24 ⟨rfl, hb⟩; refine ⟨_, rfl, ?_⟩; replace BK931 := bb_ BK931.out hb; replace BK932 := bb_ BK932.out hb; replace BK933 := bb_ BK933.out hb; replace HB := stepB_ hb; (try clear hb)))
   go_meet
   case rel => exact ⟨_, (true), rl_, H', ⟨by first | omega | exact Nat.le_refl _⟩, ⟨blkU_ BK931.out⟩, ⟨blkU_ BK932.out⟩, ⟨blkU_ BK933.out⟩, ⟨bel_⟩⟩
 case rest =>
  clear HC6
  (try clear c4); (try clear c11); (try clear z15_0 z15_1 z15_2 z15_3 z15_4); (try clear z17_0 z17_1 z17_2 z17_3 z17_4); (try clear z19_0 z19_1 z19_2 z19_3 z19_4 z19_5); (try clear z23_0 z23_1 z23_2 z23_3 z23_4); (try clear f15_0 f15_1 f15_2 f15_3 f15_4); (try clear f17_0 f17_1 f17_2 f17_3 f17_4); (try clear f19_0 f19_1 f19_2 f19_3 f19_4 f19_5); (try clear f23_0 f23_1 f23_2 f23_3 f23_4)
  obtain ⟨kq, x30_5, rfl, HA, HJ5, BK931, BK932, BK933, HB⟩ := hcut
  cases kq with
  | zero => exact absurd HA.out (by simp [impl_ClashOfGrowth.j0])
  | succ kj5 =>
   have H := HA.out
   clear HA
   simp only [impl_ClashOfGrowth.j0] at H
   by_cases c25 : x30_5 = true
   ·subst c25
    rw [if_pos rfl] at H
    simp only [Option.some.injEq, Prod.mk.injEq] at H
    obtain ⟨rfl, rfl, rfl⟩ := H
    have hnb26 := NB933_931.out
    have hnc26 := NB931_933.out
    have hnb27 := NB933_932.out
    have hnc27 := NB932_933.out
    obtain ⟨z28_0, z28_1, f28_0, f28_1⟩ := cz2_ BK933.out
    go_wp2
    refine bodyPost_ret (results_ct rfl _ _ gb933 46 #[.string (⟨#[]⟩ : ByteArray), .string (⟨#[]⟩ : ByteArray)] (0, 0) _ rfl (blkF_ BK933.out) Try.underlying46 rfl (by kernel_rfl)) rfl ?_
    exact ⟨rfl_, bel_⟩
   ·replace c25 := Bool.eq_false_iff.mpr c25
    subst c25
    rw [if_neg (show ¬ (false = true) by decide)] at H
    obtain ⟨⟨t936, t937⟩, A29, H⟩ := bnd_ H
    dsimp only at H
    have HC30 := Aside0.mk H
    clear H
    have hnb31 := NB931_932.out
    have hnc31 := NB932_931.out
    have hnb32 := NB931_933.out
    have hnc32 := NB933_931.out
    obtain ⟨z33_0, z33_1, z33_2, z33_3, z33_4, f33_0, f33_1, f33_2, f33_3, f33_4⟩ := cz5_ BK931.out
    have hnb34 := NB932_933.out
    have hnc34 := NB933_932.out
    obtain ⟨z35_0, z35_1, z35_2, z35_3, z35_4, z35_5, f35_0, f35_1, f35_2, f35_3, f35_4, f35_5⟩ := cz6_ BK932.out
    go_upto_region 4 with (first | (refine gcL_ 38 (some 42) Try.func38 #[.int .i64 a0_0, .int .i64 a1_0, .int .i64 a2, .slice A4 l4.length c4, .slice A1_5 l1_5.length c1_5] ?_; (with_reducible refine (impl_GrowthLift.calls kj5 a0_0 a1_0 a2 _ _ l4 _ _ l1_5 t936 t937 _ ?side1 ?side2 ?side3 ?side4 A29.out).mono ?_); (case side1 => exact cU_ (Kd.C_below HR4.out HB.out)); (case side2 => exact HC4.out); (case side3 => exact cU_ (Kd.C_below HR1_5.out HB.out)); (case side4 => exact HC1_5.out); rintro e w36 ⟨v938, rfl, ho0, hb⟩; refine ⟨_, rfl, ?_⟩; have HO939 := a_ (Kd.R_lower ho0 (below_size bel_)); replace BK931 := bb_ BK931.out hb; replace BK932 := bb_ BK932.out hb; replace BK933 := bb_ BK933.out hb; replace HB := stepB_ hb; (try clear hb); (try clear ho0)))
    (try simp only [Act.put, List.setIfInBounds_toArray, List.set_cons_zero, List.set_cons_succ])
    go_cut [54] (fun v54 wc => ∃ (kq : Nat) (x54_29 : Bool), v54 = .bool x54_29 ∧ Aside0 (impl_ClashOfGrowth.j1 kq a2 a3 l4 x54_29 a0_0 a0_1 a0_2 a0_3 a0_4 a1_0 a1_1 a1_2 a1_3 a1_4 l1_5 = some (r1, r2, r3)) ∧ Aside0 (kq ≤ kj5) ∧ Aside0 (wc.heap[gb931]? = some (.cells #[.int .i64 a0_0, .int .u64 a0_1, .int .u64 a0_2, .int .u64 a0_3, .int .u64 a0_4] 31 (0, 0))) ∧ Aside0 (wc.heap[gb932]? = some (.cells #[.int .i64 a1_0, .int .u64 a1_1, .int .u64 a1_2, .int .u64 a1_3, .int .u64 a1_4, (.slice A1_5 l1_5.length c1_5)] 51 (0, 0))) ∧ Aside0 (wc.heap[gb933]? = some (.cells #[.string (⟨#[]⟩ : ByteArray), .string (⟨#[]⟩ : ByteArray)] 46 (0, 0))) ∧ Aside0 (Below w.heap.size w wc))
    case first =>
     have H := HC30.out
     clear HC30
     by_cases c37 : t937 = true
     ·subst c37
      rw [if_pos rfl] at H
      obtain ⟨t940, A38, H⟩ := bnd_ H
      have H' := Aside0.mk H
      clear H
      have hnb39 := NB932_931.out
      have hnc39 := NB931_932.out
      have hnb40 := NB932_933.out
      have hnc40 := NB933_932.out
      obtain ⟨z41_0, z41_1, z41_2, z41_3, z41_4, z41_5, f41_0, f41_1, f41_2, f41_3, f41_4, f41_5⟩ := cz6_ BK932.out
      obtain ⟨Ao42, co42, eo42⟩ := Kd.R_slice HO939.out
      subst eo42
      go_wp2_with (first | (go_at_call 51; (with_reducible refine (impl_PathCheck.calls kj5 a1_0 a1_1 a1_2 a1_3 a1_4 a2 a3 _ _ t936 t940 _ ?side1 ?side2 A38.out).mono ?_); (case side1 => exact cU_ (Kd.R_reads' HO939.out).2.2); (case side2 => exact (Kd.R_reads' HO939.out).2.1); rintro e w43 ⟨rfl, hb⟩; replace HO939 := rb_ HO939.out hb; replace BK931 := bb_ BK931.out hb; replace BK932 := bb_ BK932.out hb; replace BK933 := bb_ BK933.out hb; replace HB := stepB_ hb; (try clear hb)))
      go_meet
      case rel => exact ⟨_, (t940), rl_, H', ⟨by have := HJ5.out; first | omega | exact Nat.le_refl _⟩, ⟨blkU_ BK931.out⟩, ⟨blkU_ BK932.out⟩, ⟨blkU_ BK933.out⟩, ⟨bel_⟩⟩
     ·replace c37 := Bool.eq_false_iff.mpr c37
      subst c37
      rw [if_neg (show ¬ (false = true) by decide)] at H
      have H' := Aside0.mk H
      clear H
      go_wp2
      go_meet
      case rel => exact ⟨_, (true), rl_, H', ⟨by have := HJ5.out; first | omega | exact Nat.le_refl _⟩, ⟨blkU_ BK931.out⟩, ⟨blkU_ BK932.out⟩, ⟨blkU_ BK933.out⟩, ⟨bel_⟩⟩
    case rest =>
     clear HC30
     (try clear c4); (try clear c11); (try clear c25); (try clear c37); (try clear z15_0 z15_1 z15_2 z15_3 z15_4); (try clear z17_0 z17_1 z17_2 z17_3 z17_4); (try clear z19_0 z19_1 z19_2 z19_3 z19_4 z19_5); (try clear z23_0 z23_1 z23_2 z23_3 z23_4); (try clear z28_0 z28_1); (try clear z33_0 z33_1 z33_2 z33_3 z33_4); (try clear z35_0 z35_1 z35_2 z35_3 z35_4 z35_5); (try clear z41_0 z41_1 z41_2 z41_3 z41_4 z41_5); (try clear f15_0 f15_1 f15_2 f15_3 f15_4); (try clear f17_0 f17_1 f17_2 f17_3 f17_4); (try clear f19_0 f19_1 f19_2 f19_3 f19_4 f19_5); (try clear f23_0 f23_1 f23_2 f23_3 f23_4); (try clear f28_0 f28_1); (try clear f33_0 f33_1 f33_2 f33_3 f33_4); (try clear f35_0 f35_1 f35_2 f35_3 f35_4 f35_5); (try clear f41_0 f41_1 f41_2 f41_3 f41_4 f41_5)
     obtain ⟨kq, x54_29, rfl, HA, HJ29, BK931, BK932, BK933, HB⟩ := hcut
     cases kq with
     | zero => exact absurd HA.out (by simp [impl_ClashOfGrowth.j1])
     | succ kj29 =>
      have H := HA.out
      clear HA
      simp only [impl_ClashOfGrowth.j1] at H
      by_cases c44 : x54_29 = true
      ·subst c44
       rw [if_pos rfl] at H
       simp only [Option.some.injEq, Prod.mk.injEq] at H
       obtain ⟨rfl, rfl, rfl⟩ := H
       have hnb45 := NB933_931.out
       have hnc45 := NB931_933.out
       have hnb46 := NB933_932.out
       have hnc46 := NB932_933.out
       obtain ⟨z47_0, z47_1, f47_0, f47_1⟩ := cz2_ BK933.out
       go_wp2
       refine bodyPost_ret (results_ct rfl _ _ gb933 46 #[.string (⟨#[]⟩ : ByteArray), .string (⟨#[]⟩ : ByteArray)] (0, 0) _ rfl (blkF_ BK933.out) Try.underlying46 rfl (by kernel_rfl)) rfl ?_
       exact ⟨rfl_, bel_⟩
      ·replace c44 := Bool.eq_false_iff.mpr c44
       subst c44
       rw [if_neg (show ¬ (false = true) by decide)] at H
       obtain ⟨⟨t941, t942⟩, A48, H⟩ := bnd_ H
       dsimp only at H
       obtain ⟨t945, A49, H⟩ := bnd_ H
       by_cases c50 : 0 ≤ t945
       ·rw [if_pos c50] at H
        have c50b0 := eq_true c50
        have c50b1 := decide_eq_true c50
        clear c50
        by_cases c51 : t945 ≤ (l1_5.length : Int)
        ·rw [if_pos c51] at H
         have c51b0 := eq_true c51
         have c51b1 := decide_eq_true c51
         clear c51
         obtain ⟨y946, hy946⟩ : ∃ y_ : List (S29), y_ = (l1_5.take (t945 : Int).toNat) := ⟨_, rfl⟩
         replace H : ((impl_peaksRow.f kj29 a0_0 a2 y946).bind fun t950 => ((impl_ClashFirst.f kj29 t941 t950).bind fun bt953 => (some (bt953.1, bt953.2.1, bt953.2.2)))) = some (r1, r2, r3) := rpl_ hy946 H
         have Ny946 := Aside0.mk hy946
         clear hy946
         obtain ⟨t950, A52, H⟩ := bnd_ H
         obtain ⟨⟨t953, t954, t955⟩, A53, H⟩ := bnd_ H
         dsimp only at H
         simp only [Option.some.injEq, Prod.mk.injEq] at H
         obtain ⟨rfl, rfl, rfl⟩ := H
         have hnb54 := NB931_932.out
         have hnc54 := NB932_931.out
         have hnb55 := NB931_933.out
         have hnc55 := NB933_931.out
         obtain ⟨z56_0, z56_1, z56_2, z56_3, z56_4, f56_0, f56_1, f56_2, f56_3, f56_4⟩ := cz5_ BK931.out
         try go_wp2_with (first | (refine gcL_ 52 (some 62) Try.func52 #[.int .i64 a0_0, .int .i64 a2, .string a3, .slice A4 l4.length c4] ?_; (with_reducible refine (impl_ClashRow.calls kj29 a0_0 a2 a3 _ _ l4 t941 t942 _ ?side1 ?side2 A48.out).mono ?_); (case side1 => exact cU_ (Kd.C_below HR4.out HB.out)); (case side2 => exact HC4.out); rintro e w57 ⟨v943, rfl, ho0, hb⟩; refine ⟨_, rfl, ?_⟩; have HO944 := a_ (Kd.R_lower ho0 (below_size bel_)); replace BK931 := bb_ BK931.out hb; replace BK932 := bb_ BK932.out hb; replace BK933 := bb_ BK933.out hb; replace HB := stepB_ hb; (try clear hb); (try clear ho0)))
         replace HO944 := a_ (Kd.R_drew HO944.out)
         replace BK931 := a_ (blk_drew BK931.out)
         replace BK932 := a_ (blk_drew BK932.out)
         replace BK933 := a_ (blk_drew BK933.out)
         replace HB := a_ (below_drew1 HB.out)
         refine start_ (n := 16) (S := fun w' => hdc5_ w' gb931 (.int .i64 a0_0) (.int .u64 a0_1) (.int .u64 a0_2) (.int .u64 a0_3) (.int .u64 a0_4) (hd6_ w' gb932 (.int .i64 a1_0) (.int .u64 a1_1) (.int .u64 a1_2) (.int .u64 a1_3) (.int .u64 a1_4) (.slice A1_5 l1_5.length c1_5))) (ds := []) #[false, false, false, false, false, false, false, false, false, false, false, false, false, false, false, false] (by kernel_rfl) rfl rfl (hcc5_ BK931.out (hc6_ BK932.out)) (fun hHeld => ?_); refine with_tabW impl_ClashOfGrowth.tab7 impl_ClashOfGrowth.bits7 (fun HT HW_ => ?_)
         generalize w57.drew = w58 at HO944 BK931 BK932 BK933 HB hHeld ⊢
         refine pP_ 0 (some 65) (b_ 16 1) HT ?_
         refine pP_ 1 (some 66) (b_ 16 3) HT ?_
         refine pP_ 3 (some 68) (b_ 16 11) HT ?_
         refine pP_ 4 (some 69) (b_ 16 27) HT ?_
         refine pP_ 6 (some 71) (b_ 16 91) HT ?_
         refine takeP_ 2 (some 67) (b_ 16 95) HT HW_ hHeld ?_
         refine takeP_ 5 (some 70) (b_ 16 127) HT HW_ hHeld ?_
         refine takeP_ 7 (some 72) (b_ 16 255) HT HW_ hHeld ?_
         refine oneP_ 8 (some 73) (b_ 16 511) HT (fun K hK => ?_)
         refine goN_ Try.func55 #[.int .i64 a0_0] ?_
         with_reducible refine (impl_PeaksCount.calls a0_0 t945 _ A49.out).mono ?_
         rintro e w' ⟨rfl, ⟨nd, rfl⟩⟩
         refine ⟨_, rfl, ?_⟩
         have q59 : (t945 : Int) ≤ ((l1_5.length : Int) : Int) := ofd_
         obtain ⟨i059, hi059, _, hsz59, _⟩ := info_parts info29
         have hroom59 : l1_5.length ≤ c1_5 := HC1_5.out
         have hC59 : Kd.C k29 _ A1_5 l1_5.length l1_5 := HR1_5.out
         have hcut59 := cut_to (P := Try.prog) 49 29 .i64 Try.underlying49 hi059 A1_5 l1_5.length c1_5 t945 (ofd_) q59 hroom59
         have hr59 := Kd.C_take (m := (t945 : Int).toNat) hC59 (by omega)
         have hy59 : y946.length = (t945 : Int).toNat := (by rw [Ny946.out, List.length_take]; omega)
         rw [← Ny946.out] at hr59
         rw [← hy59] at hcut59
         have HR949 := Aside0.mk hr59
         have HC949 := a_ (show y946.length ≤ c1_5 from by omega)
         clear hr59 hC59 hroom59 hi059 hsz59
         have KY59 := Aside0.mk hy59
         clear hy59
         replace q59 := eq_true q59
         refine hK.out _ _ (hcc5_ BK931.out (hc6_ BK932.out)) (fun hHeld => ?_)
         clear hK K
         refine normP_ (some 73) ?_
         refine pP_ 9 (some 74) (b_ 16 1023) HT ?_
         refine oneP_ 10 (some 75) (b_ 16 2047) HT (fun K hK => ?_)
         refine goN_ Try.func54 #[.int .i64 a0_0, .int .i64 a2, .slice A1_5 y946.length c1_5] ?_
         with_reducible refine (impl_peaksRow.calls kj29 a0_0 a2 _ _ y946 t950 _ ?side1 ?side2 A52.out).mono ?_
         (case side1 => exact cU_ (Kd.C_below HR949.out bel_))
         (case side2 => exact HC949.out)
         rintro e w60 ⟨v951, rfl, ho0, hb⟩
         refine ⟨_, rfl, ?_⟩
         have HO952 := a_ (Kd.R_lower (Kd.R_new' ho0 (Kd.R_lt (kdU_ HO944.out))) (below_size bel_))
         replace HO944 := a_ (Kd.R_elder' (kdU_ HO944.out) (Kd.R_base ho0) hb)
         replace BK931 := bb_ BK931.out hb
         replace BK932 := bb_ BK932.out hb
         replace BK933 := bb_ BK933.out hb
         replace HB := stepB_ hb
         (try clear hb); (try clear ho0)
         obtain ⟨Ao61, co61, eo61⟩ := Kd.R_slice HO944.out
         (first | subst eo61 | (injection eo61 with f1_ f2_ f3_; have f4_ := f1_.symm; have f5_ := f3_.symm; clear f1_ f2_ f3_; subst f4_; subst f5_))
         obtain ⟨Ao62, co62, eo62⟩ := Kd.R_slice HO952.out
         (first | subst eo62 | (injection eo62 with f1_ f2_ f3_; have f4_ := f1_.symm; have f5_ := f3_.symm; clear f1_ f2_ f3_; subst f4_; subst f5_))
         refine hK.out _ _ (hcc5_ BK931.out (hc6_ BK932.out)) (fun hHeld => ?_)
         clear hK K
         refine normP_ (some 75) ?_
         refine oneP_ 11 (some 76) (b_ 16 4095) HT (fun K hK => ?_)
         refine goN_ Try.func53 #[.slice Ao61 t941.length co61, .slice Ao62 t950.length co62] ?_
         with_reducible refine (impl_ClashFirst.calls kj29 _ _ t941 _ _ t950 t953 t954 t955 _ ?side1 ?side2 ?side3 ?side4 A53.out).mono ?_
         (case side1 => exact cU_ (Kd.R_reads' HO944.out).2.2)
         (case side2 => exact (Kd.R_reads' HO944.out).2.1)
         (case side3 => exact cU_ (Kd.R_reads' HO952.out).2.2)
         (case side4 => exact (Kd.R_reads' HO952.out).2.1)
         rintro e w63 ⟨rfl, hb⟩
         refine ⟨_, rfl, ?_⟩
         replace HO944 := rb_ HO944.out hb
         replace HO952 := rb_ HO952.out hb
         replace BK931 := bb_ BK931.out hb
         replace BK932 := bb_ BK932.out hb
         replace BK933 := bb_ BK933.out hb
         replace HB := stepB_ hb
         (try clear hb)
         refine hK.out _ _ (hcc5_ BK931.out (hc6_ BK932.out)) (fun hHeld => ?_)
         clear hK K
         refine normP_ (some 76) ?_
         refine pP_ 12 (some 77) (b_ 16 8191) HT ?_
         refine pP_ 13 (some 78) (b_ 16 16383) HT ?_
         refine oneP_ 14 none (b_ 16 32767) HT (fun K hK => ?_)
         have hs64 : w63.cell? ⟨gb933, 0, none⟩ = some (.string (⟨#[]⟩ : ByteArray)) := (blk_cell BK933.out 0).trans rfl
         have hfs64 := blk_frozen BK933.out 0
         have hns64_0 := NB931_933.out
         have hns64_1 := NB932_933.out
         have hms64_0 := NB933_931.out
         have hms64_1 := NB933_932.out
         have hs65 : w63.cell? ⟨gb933, 1, none⟩ = some (.string (⟨#[]⟩ : ByteArray)) := (blk_cell BK933.out 1).trans rfl
         have hfs65 := blk_frozen BK933.out 1
         have hns65_0 := NB931_933.out
         have hns65_1 := NB932_933.out
         have hms65_0 := NB933_931.out
         have hms65_1 := NB933_932.out
         refine skip_ (w1 := ?_) (by rfl) rfl ?_ ?_
         rotate_left
         ·go_simp
          rfl
         refine hK.out _ _ ⟨(cf2_ NB931_933.out hHeld.1), (cf2_ NB931_933.out hHeld.2.1), (cf2_ NB931_933.out hHeld.2.2.1), (cf2_ NB931_933.out hHeld.2.2.2.1), (cf2_ NB931_933.out hHeld.2.2.2.2.1), (cf2_ NB932_933.out hHeld.2.2.2.2.2.1), (cf2_ NB932_933.out hHeld.2.2.2.2.2.2.1), (cf2_ NB932_933.out hHeld.2.2.2.2.2.2.2.1), (cf2_ NB932_933.out hHeld.2.2.2.2.2.2.2.2.1), (cf2_ NB932_933.out hHeld.2.2.2.2.2.2.2.2.2.1), (cf2_ NB932_933.out hHeld.2.2.2.2.2.2.2.2.2.2)⟩ (fun hHeld => ?_)
         clear hK K
         refine pP_ 15 (some 11) (b_ 16 65535) HT ?_
         refine done_ (done_of HT.out (by kernel_rfl)) ?_
         try go_wp2
         refine bodyPost_ret (results_ct rfl _ _ gb933 46 #[.string t953, .string t954] (0, 0) _ rfl (blkF_ BK933.out) Try.underlying46 rfl (by kernel_rfl)) rfl ?_
         exact ⟨rfl_, bel_⟩
        ·rw [if_neg c51] at H
         exact absurd H (by simp)
       ·rw [if_neg c50] at H
        exact absurd H (by simp)
end
section
def spec_l3Node.f : Nat → Int → Int → Int → Int → List (S29) → Option (Int × Int × Int × Int)
 | 0, _, _, _, _, _ => none
 | k + 1, a0, a1, a2, a3, l4 => if a0 ≥ a2 then ((spec_PeaksCount.f k a2).bind fun t187 => ((spec_l3Rests.f k 0 a3 a2 a0).bind fun t188 => (if 0 ≤ (wrap64 (t187 + t188)) then (if (wrap64 (t187 + t188)) < (l4.length : Int) then (some ((rd_T29 l4 (wrap64 (t187 + t188))).f0, (rd_T29 l4 (wrap64 (t187 + t188))).f1, (rd_T29 l4 (wrap64 (t187 + t188))).f2, (rd_T29 l4 (wrap64 (t187 + t188))).f3)) else (none)) else (none)))) else (if a1 ≤ a2 then ((spec_l3PeaksAhead.f k a2 a0).bind fun t190 => (if 0 ≤ t190 then (if t190 < (l4.length : Int) then (some ((rd_T29 l4 t190).f0, (rd_T29 l4 t190).f1, (rd_T29 l4 t190).f2, (rd_T29 l4 t190).f3)) else (none)) else (none))) else ((spec_TreeSplit.f k (wrap64 (a1 - a0))).bind fun t192 => ((spec_l3Node.f k a0 (wrap64 (a0 + t192)) a2 a3 l4).bind fun bt193 => ((spec_l3Node.f k (wrap64 (a0 + t192)) a1 a2 a3 l4).bind fun bt197 => ((spec_HashPair.f k bt193.1 bt193.2.1 bt193.2.2.1 bt193.2.2.2 bt197.1 bt197.2.1 bt197.2.2.1 bt197.2.2.2).bind fun bt201 => (some (bt201.1, bt201.2.1, bt201.2.2.1, bt201.2.2.2)))))))
theorem spec_l3Node.calls (k : Nat) : ∀ (a0 a1 : Int) (a2 a3 : Int) (A4 : Option Addr) (c4 : Nat) (l4 : List (S29)) (r1 r2 : Int) (r3 r4 : Int) (w : World) (hr4 : Kd.C k29 w A4 l4.length l4) (hc4 : l4.length ≤ c4) (h : spec_l3Node.f k a0 a1 a2 a3 l4 = some (r1, r2, r3, r4)),
  Calls Try.prog 74 #[.int .i64 a0, .int .i64 a1, .int .i64 a2, .int .i64 a3, .slice A4 l4.length c4] w fun e w' => e = .returned (.agg #[.int .u64 r1, .int .u64 r2, .int .u64 r3, .int .u64 r4]) ∧ Below w.heap.size w w' := by
 induction k using Nat.strongRecOn with
 | _ k ih =>
 intro a0 a1 a2 a3 A4 c4 l4 r1 r2 r3 r4 w hr4 hc4 h
 cases k with
 | zero => exact absurd h (by simp [spec_l3Node.f])
 | succ k =>
 simp only [spec_l3Node.f] at h
 have hu29 := Try.underlying29
 have HR4 := Aside0.mk hr4
 have HC4 := Aside0.mk hc4
 clear hr4 hc4
 have HB := a_ (Below.refl w.heap.size w)
 have H : (if a0 ≥ a2 then ((spec_PeaksCount.f k a2).bind fun t187 => ((spec_l3Rests.f k 0 a3 a2 a0).bind fun t188 => (if 0 ≤ (wrap64 (t187 + t188)) then (if (wrap64 (t187 + t188)) < (l4.length : Int) then (some ((rd_T29 l4 (wrap64 (t187 + t188))).f0, (rd_T29 l4 (wrap64 (t187 + t188))).f1, (rd_T29 l4 (wrap64 (t187 + t188))).f2, (rd_T29 l4 (wrap64 (t187 + t188))).f3)) else (none)) else (none)))) else (if a1 ≤ a2 then ((spec_l3PeaksAhead.f k a2 a0).bind fun t190 => (if 0 ≤ t190 then (if t190 < (l4.length : Int) then (some ((rd_T29 l4 t190).f0, (rd_T29 l4 t190).f1, (rd_T29 l4 t190).f2, (rd_T29 l4 t190).f3)) else (none)) else (none))) else ((spec_TreeSplit.f k (wrap64 (a1 - a0))).bind fun t192 => ((spec_l3Node.f k a0 (wrap64 (a0 + t192)) a2 a3 l4).bind fun bt193 => ((spec_l3Node.f k (wrap64 (a0 + t192)) a1 a2 a3 l4).bind fun bt197 => ((spec_HashPair.f k bt193.1 bt193.2.1 bt193.2.2.1 bt193.2.2.2 bt197.1 bt197.2.1 bt197.2.2.1 bt197.2.2.2).bind fun bt201 => (some (bt201.1, bt201.2.1, bt201.2.2.1, bt201.2.2.2)))))))) = some (r1, r2, r3, r4) := h
 clear h
 by_cases c6 : a0 ≥ a2
 ·rw [if_pos c6] at H
  have c6b0 : decide (a2 ≤ a0) = true := decide_eq_true c6
  clear c6
  obtain ⟨t187, A7, H⟩ := bnd_ H
  obtain ⟨t188, A8, H⟩ := bnd_ H
  obtain ⟨ji9, hji9⟩ : ∃ j_ : Int, (wrap64 (t187 + t188)) = j_ := ⟨_, rfl⟩
  replace H : (if 0 ≤ (ji9) then (if (ji9) < (l4.length : Int) then (some ((rd_T29 l4 (ji9)).f0, (rd_T29 l4 (ji9)).f1, (rd_T29 l4 (ji9)).f2, (rd_T29 l4 (ji9)).f3)) else (none)) else (none)) = some (r1, r2, r3, r4) := by first | (rw [hji9] at H; exact H) | (simp only [hji9] at H ⊢; exact H)
  (try rw [hji9] at A7)
  (try rw [hji9] at A8)
  have hji9w : (IntKind.i64.wrap (t187 + t188)) = ji9 := (i64_w _).trans hji9
  by_cases c10 : 0 ≤ (ji9)
  ·rw [if_pos c10] at H
   have c10b0 := decide_eq_true c10
   clear c10
   by_cases c11 : (ji9) < (l4.length : Int)
   ·rw [if_pos c11] at H
    have c11b0 := decide_eq_true c11
    clear c11
    simp only [Option.some.injEq, Prod.mk.injEq] at H
    obtain ⟨rfl, rfl, rfl, rfl⟩ := H
    go_enter Try.func74, Try.ntmps74
    go_wp2_with (first | ((with_reducible refine gate_dst (N := 10) rfl ?_); refine boxE_ (cs := #[.int .u64 0, .int .u64 0, .int .u64 0, .int .u64 0]) (t := 29) ?_; intro gb186 hg w12 hbox hb; have BK186 := a_ (hbox); have GW186 := sizeB_ hg; replace HB := stepB_ hb; clear hb hbox hg) | (refine gcL_ 50 (some 17) Try.func50 #[.int .i64 a2] ?_; (with_reducible refine (spec_PeaksCount.calls k a2 t187 _ A7.out).mono ?_); rintro e w' ⟨rfl, ⟨nd, rfl⟩⟩; refine ⟨_, rfl, ?_⟩; (try (rw [drewN_self w12]; generalize hq_ : World.drewN w12 _ = w12; have n0_ : Aside0 (w12.heap[gb186]? = some (.cells #[.int .u64 0, .int .u64 0, .int .u64 0, .int .u64 0] 29 (0, 0))) := ⟨by rw [← hq_]; exact (blkU_ BK186.out)⟩; have n1_ : Aside0 (Below w.heap.size w w12) := ⟨by rw [← hq_]; exact bel_⟩; clear BK186 HB hq_; have BK186 := n0_; have HB := n1_; clear n0_ n1_))) | (refine gcL_ 67 (some 21) Try.func67 #[.int .i64 0, .int .i64 a3, .int .i64 a2, .int .i64 a0] ?_; (with_reducible refine (spec_l3Rests.calls k 0 a3 a2 a0 t188 _ A8.out).mono ?_); rintro e w' ⟨rfl, ⟨nd, rfl⟩⟩; refine ⟨_, rfl, ?_⟩; (try (rw [drewN_self w12]; generalize hq_ : World.drewN w12 _ = w12; have n0_ : Aside0 (w12.heap[gb186]? = some (.cells #[.int .u64 0, .int .u64 0, .int .u64 0, .int .u64 0] 29 (0, 0))) := ⟨by rw [← hq_]; exact (blkU_ BK186.out)⟩; have n1_ : Aside0 (Below w.heap.size w w12) := ⟨by rw [← hq_]; exact bel_⟩; clear BK186 HB hq_; have BK186 := n0_; have HB := n1_; clear n0_ n1_)); have p189 : 0 ≤ ((ji9) : Int) := ofd_; have q189 : (ji9) < (l4.length : Int) := ofd_; obtain ⟨ad189, e189, hx189_0, hx189_1, hx189_2, hx189_3⟩ := at_T29 HR4.out (ji9) p189 q189; cases e189; replace hx189_0 := pc_ HB.out hx189_0; replace hx189_1 := pc_ HB.out hx189_1; replace hx189_2 := pc_ HB.out hx189_2; replace hx189_3 := pc_ HB.out hx189_3; replace p189 := eq_true p189; replace q189 := eq_true q189; obtain ⟨z13_0, z13_1, z13_2, z13_3, f13_0, f13_1, f13_2, f13_3⟩ := cz4_ BK186.out))
    refine bodyPost_ret (results_cell_row rfl _ _ gb186 29 #[.int .u64 ((rd_T29 l4 (ji9)).f0), .int .u64 ((rd_T29 l4 (ji9)).f1), .int .u64 ((rd_T29 l4 (ji9)).f2), .int .u64 ((rd_T29 l4 (ji9)).f3)] (0, 0) _ rfl (blkF_ BK186.out) Try.underlying29 rfl (by kernel_rfl)) rfl ?_
    exact ⟨by first | rfl | (simp [errW_none, errW_some] <;> rfl) | (simp only [← hji9]; first | rfl | (simp [errW_none, errW_some] <;> rfl)) | (simp [*, errW_none, errW_some] <;> rfl), bel_⟩
   ·rw [if_neg c11] at H
    exact absurd H (by simp)
  ·rw [if_neg c10] at H
   exact absurd H (by simp)
 ·rw [if_neg c6] at H
  have c6b0 : decide (a2 ≤ a0) = false := decide_eq_false c6
  clear c6
  by_cases c14 : a1 ≤ a2
  ·rw [if_pos c14] at H
   have c14b0 := decide_eq_true c14
   clear c14
   obtain ⟨t190, A15, H⟩ := bnd_ H
   by_cases c16 : 0 ≤ t190
   ·rw [if_pos c16] at H
    have c16b0 := decide_eq_true c16
    clear c16
    by_cases c17 : t190 < (l4.length : Int)
    ·rw [if_pos c17] at H
     have c17b0 := decide_eq_true c17
     clear c17
     simp only [Option.some.injEq, Prod.mk.injEq] at H
     obtain ⟨rfl, rfl, rfl, rfl⟩ := H
     go_enter Try.func74, Try.ntmps74
     go_wp2_with (first | ((with_reducible refine gate_dst (N := 10) rfl ?_); refine boxE_ (cs := #[.int .u64 0, .int .u64 0, .int .u64 0, .int .u64 0]) (t := 29) ?_; intro gb186 hg w18 hbox hb; have BK186 := a_ (hbox); have GW186 := sizeB_ hg; replace HB := stepB_ hb; clear hb hbox hg) | (refine gcL_ 120 (some 31) Try.func120 #[.int .i64 a2, .int .i64 a0] ?_; (with_reducible refine (spec_l3PeaksAhead.calls k a2 a0 t190 _ A15.out).mono ?_); rintro e w' ⟨rfl, ⟨nd, rfl⟩⟩; refine ⟨_, rfl, ?_⟩; (try (rw [drewN_self w18]; generalize hq_ : World.drewN w18 _ = w18; have n0_ : Aside0 (w18.heap[gb186]? = some (.cells #[.int .u64 0, .int .u64 0, .int .u64 0, .int .u64 0] 29 (0, 0))) := ⟨by rw [← hq_]; exact (blkU_ BK186.out)⟩; have n1_ : Aside0 (Below w.heap.size w w18) := ⟨by rw [← hq_]; exact bel_⟩; clear BK186 HB hq_; have BK186 := n0_; have HB := n1_; clear n0_ n1_)); have p191 : 0 ≤ (t190 : Int) := ofd_; have q191 : t190 < (l4.length : Int) := ofd_; obtain ⟨ad191, e191, hx191_0, hx191_1, hx191_2, hx191_3⟩ := at_T29 HR4.out t190 p191 q191; cases e191; replace hx191_0 := pc_ HB.out hx191_0; replace hx191_1 := pc_ HB.out hx191_1; replace hx191_2 := pc_ HB.out hx191_2; replace hx191_3 := pc_ HB.out hx191_3; replace p191 := eq_true p191; replace q191 := eq_true q191; obtain ⟨z19_0, z19_1, z19_2, z19_3, f19_0, f19_1, f19_2, f19_3⟩ := cz4_ BK186.out))
     refine bodyPost_ret (results_cell_row rfl _ _ gb186 29 #[.int .u64 ((rd_T29 l4 t190).f0), .int .u64 ((rd_T29 l4 t190).f1), .int .u64 ((rd_T29 l4 t190).f2), .int .u64 ((rd_T29 l4 t190).f3)] (0, 0) _ rfl (blkF_ BK186.out) Try.underlying29 rfl (by kernel_rfl)) rfl ?_
     exact ⟨rfl_, bel_⟩
    ·rw [if_neg c17] at H
     exact absurd H (by simp)
   ·rw [if_neg c16] at H
    exact absurd H (by simp)
  ·rw [if_neg c14] at H
   have c14b0 := decide_eq_false c14
   clear c14
   obtain ⟨t192, A20, H⟩ := bnd_ H
   obtain ⟨⟨t193, t194, t195, t196⟩, A21, H⟩ := bnd_ H
   dsimp only at H
   obtain ⟨⟨t197, t198, t199, t200⟩, A22, H⟩ := bnd_ H
   dsimp only at H
   obtain ⟨⟨t201, t202, t203, t204⟩, A23, H⟩ := bnd_ H
   dsimp only at H
   simp only [Option.some.injEq, Prod.mk.injEq] at H
   obtain ⟨rfl, rfl, rfl, rfl⟩ := H
   go_enter Try.func74, Try.ntmps74
   go_wp2_with (first | ((with_reducible refine gate_dst (N := 10) rfl ?_); refine boxE_ (cs := #[.int .u64 0, .int .u64 0, .int .u64 0, .int .u64 0]) (t := 29) ?_; intro gb186 hg w24 hbox hb; have BK186 := a_ (hbox); have GW186 := sizeB_ hg; replace HB := stepB_ hb; clear hb hbox hg) | (refine gcL_ 88 (some 38) Try.func88 #[.int .i64 (wrap64 (a1 - a0))] ?_; (with_reducible refine (spec_TreeSplit.calls k (wrap64 (a1 - a0)) t192 _ A20.out).mono ?_); rintro e w' ⟨rfl, ⟨nd, rfl⟩⟩; refine ⟨_, rfl, ?_⟩; (try (rw [drewN_self w24]; generalize hq_ : World.drewN w24 _ = w24; have n0_ : Aside0 (w24.heap[gb186]? = some (.cells #[.int .u64 0, .int .u64 0, .int .u64 0, .int .u64 0] 29 (0, 0))) := ⟨by rw [← hq_]; exact (blkU_ BK186.out)⟩; have n1_ : Aside0 (Below w.heap.size w w24) := ⟨by rw [← hq_]; exact bel_⟩; clear BK186 HB hq_; have BK186 := n0_; have HB := n1_; clear n0_ n1_))) | (refine gcL_ 74 (some 45) Try.func74 #[.int .i64 a0, .int .i64 (wrap64 (a0 + t192)), .int .i64 a2, .int .i64 a3, .slice A4 l4.length c4] ?_; (with_reducible refine (ih k (by omega) a0 (wrap64 (a0 + t192)) a2 a3 _ _ l4 t193 t194 t195 t196 _ ?side1 ?side2 A21.out).mono ?_); (case side1 => exact cU_ (Kd.C_below HR4.out HB.out)); (case side2 => exact HC4.out); rintro e w25 ⟨rfl, hb⟩; refine ⟨_, rfl, ?_⟩; replace BK186 := bb_ BK186.out hb; replace HB := stepB_ hb; (try clear hb)) | (refine gcL_ 74 (some 51) Try.func74 #[.int .i64 (wrap64 (a0 + t192)), .int .i64 a1, .int .i64 a2, .int .i64 a3, .slice A4 l4.length c4] ?_; (with_reducible refine (ih k (by omega) (wrap64 (a0 + t192)) a1 a2 a3 _ _ l4 t197 t198 t199 t200 _ ?side1 ?side2 A22.out).mono ?_); (case side1 => exact cU_ (Kd.C_below HR4.out HB.out)); (case side2 => exact HC4.out); rintro e w26 ⟨rfl, hb⟩; refine ⟨_, rfl, ?_⟩; replace BK186 := bb_ BK186.out hb; replace HB := stepB_ hb; (try clear hb)) | (refine gcL_ 119 (some 52) Try.func119 #[.agg #[.int .u64 t193, .int .u64 t194, .int .u64 t195, .int .u64 t196], .agg #[.int .u64 t197, .int .u64 t198, .int .u64 t199, .int .u64 t200]] ?_; (with_reducible refine (spec_HashPair.calls k t193 t194 t195 t196 t197 t198 t199 t200 t201 t202 t203 t204 _ A23.out).mono ?_); rintro e w27 ⟨rfl, hb⟩; refine ⟨_, rfl, ?_⟩; replace BK186 := bb_ BK186.out hb; replace HB := stepB_ hb; (try clear hb); obtain ⟨z28_0, z28_1, z28_2, z28_3, f28_0, f28_1, f28_2, f28_3⟩ := cz4_ BK186.out))
   refine bodyPost_ret (results_cell_row rfl _ _ gb186 29 #[.int .u64 t201, .int .u64 t202, .int .u64 t203, .int .u64 t204] (0, 0) _ rfl (blkF_ BK186.out) Try.underlying29 rfl (by kernel_rfl)) rfl ?_
   exact ⟨rfl_, bel_⟩
end
section
def spec_l3Above.f : Nat → Int → Int → Int → Int → Int → List (S29) → Option ((List (S29)))
 | 0, _, _, _, _, _, _ => none
 | k + 1, a0, a1, a2, a3, a4, l5 => if a1 ≤ a3 then (some (([] : List (S29)))) else ((spec_TreeSplit.f k (wrap64 (a1 - a0))).bind fun t574 => (if a2 < (wrap64 (a0 + t574)) then ((spec_l3Above.f k a0 (wrap64 (a0 + t574)) a2 a3 a4 l5).bind fun t575 => ((spec_l3Node.f k (wrap64 (a0 + t574)) a1 a3 a4 l5).bind fun bt578 => (if t575.length < 4398046511104 then (some (t575 ++ [(⟨bt578.1, bt578.2.1, bt578.2.2.1, bt578.2.2.2⟩ : S29)])) else (none)))) else ((spec_l3Above.f k (wrap64 (a0 + t574)) a1 a2 a3 a4 l5).bind fun t585 => ((spec_l3Node.f k a0 (wrap64 (a0 + t574)) a3 a4 l5).bind fun bt588 => (if t585.length < 4398046511104 then (some (t585 ++ [(⟨bt588.1, bt588.2.1, bt588.2.2.1, bt588.2.2.2⟩ : S29)])) else (none))))))
theorem spec_l3Above.calls (k : Nat) : ∀ (a0 a1 : Int) (a2 a3 a4 : Int) (A5 : Option Addr) (c5 : Nat) (l5 r : List (S29)) (w : World) (hr5 : Kd.C k29 w A5 l5.length l5) (hc5 : l5.length ≤ c5) (h : spec_l3Above.f k a0 a1 a2 a3 a4 l5 = some r),
  Calls Try.prog 85 #[.int .i64 a0, .int .i64 a1, .int .i64 a2, .int .i64 a3, .int .i64 a4, .slice A5 l5.length c5] w fun e w' => ∃ v0_ : Value, e = .returned (v0_) ∧ Kd.R k29 29 w' w.heap.size (fun _ => True) v0_ r ∧ Below w.heap.size w w' := by
 induction k using Nat.strongRecOn with
 | _ k ih =>
 intro a0 a1 a2 a3 a4 A5 c5 l5 r w hr5 hc5 h
 cases k with
 | zero => exact absurd h (by simp [spec_l3Above.f])
 | succ k =>
 simp only [spec_l3Above.f] at h
 have HR5 := Aside0.mk hr5
 have HC5 := Aside0.mk hc5
 clear hr5 hc5
 have HB := a_ (Below.refl w.heap.size w)
 have H : (if a1 ≤ a3 then (some (([] : List (S29)))) else ((spec_TreeSplit.f k (wrap64 (a1 - a0))).bind fun t574 => (if a2 < (wrap64 (a0 + t574)) then ((spec_l3Above.f k a0 (wrap64 (a0 + t574)) a2 a3 a4 l5).bind fun t575 => ((spec_l3Node.f k (wrap64 (a0 + t574)) a1 a3 a4 l5).bind fun bt578 => (if t575.length < 4398046511104 then (some (t575 ++ [(⟨bt578.1, bt578.2.1, bt578.2.2.1, bt578.2.2.2⟩ : S29)])) else (none)))) else ((spec_l3Above.f k (wrap64 (a0 + t574)) a1 a2 a3 a4 l5).bind fun t585 => ((spec_l3Node.f k a0 (wrap64 (a0 + t574)) a3 a4 l5).bind fun bt588 => (if t585.length < 4398046511104 then (some (t585 ++ [(⟨bt588.1, bt588.2.1, bt588.2.2.1, bt588.2.2.2⟩ : S29)])) else (none))))))) = some r := h
 clear h
 by_cases c7 : a1 ≤ a3
 ·rw [if_pos c7] at H
  have c7b0 := decide_eq_true c7
  clear c7
  obtain ⟨y571, hy571⟩ : ∃ y_ : List (S29), y_ = (([] : List (S29))) := ⟨_, rfl⟩
  replace H : (some y571) = some r := rpl_ hy571 H
  have Ny571 := Aside0.mk hy571
  clear hy571
  obtain rfl := Option.some.inj H
  go_enter Try.func85, Try.ntmps85
  go_wp2_with (first | ((with_reducible refine gate_dst (N := 17) rfl ?_); refine Kd.R_lit k29 _ 29 ?hg (N := 17) ?hd (xs := ([] : List (S29))) (inner := []) (ok := fun _ => True) (okp := fun _ => True) ?hr ?hp (fun _ hk => hk) trivial (Below.refl _ _) (Nat.le_refl _) (by simp) ?_; (case hd => rfl); (case hg => rfl); (case hr => first | (go_simp; done) | (go_simp; rfl)); (case hp => exact (Reps.none _ _)); intro v572 w8 ho9 hb hg_ hnew_; clear hg_ hnew_; (first | rw [← Ny571.out] at ho9 | (simp only [Int.reduceToNat] at ho9; rw [← Ny571.out] at ho9)); have HO573 := a_ (Kd.R_lower ho9 (below_size bel_)); replace HB := stepB_ hb; clear hb ho9))
  go_ret
  exact ⟨_, rfl_, by (with_reducible repeat (first | apply Kd.R_alloc | apply Kd.R_drewN | apply Kd.R_drew)); exact HO573.out, bel_⟩
 ·rw [if_neg c7] at H
  have c7b0 := decide_eq_false c7
  clear c7
  obtain ⟨t574, A10, H⟩ := bnd_ H
  by_cases c11 : a2 < (wrap64 (a0 + t574))
  ·rw [if_pos c11] at H
   have c11b0 := decide_eq_true c11
   clear c11
   obtain ⟨t575, A12, H⟩ := bnd_ H
   obtain ⟨⟨t578, t579, t580, t581⟩, A13, H⟩ := bnd_ H
   dsimp only at H
   by_cases c14 : t575.length < 4398046511104
   ·rw [if_pos c14] at H
    have LMc14 := Aside0.mk c14
    clear c14
    obtain ⟨y582, hy582⟩ : ∃ y_ : List (S29), y_ = (t575 ++ [(⟨t578, t579, t580, t581⟩ : S29)]) := ⟨_, rfl⟩
    replace H : (some y582) = some r := rpl_ hy582 H
    have Ny582 := Aside0.mk hy582
    clear hy582
    obtain rfl := Option.some.inj H
    go_enter Try.func85, Try.ntmps85
    go_wp2_with (first | (refine gcL_ 88 (some 22) Try.func88 #[.int .i64 (wrap64 (a1 - a0))] ?_; (with_reducible refine (spec_TreeSplit.calls k (wrap64 (a1 - a0)) t574 _ A10.out).mono ?_); rintro e w' ⟨rfl, ⟨nd, rfl⟩⟩; refine ⟨_, rfl, ?_⟩) | (refine gcL_ 85 (some 33) Try.func85 #[.int .i64 a0, .int .i64 (wrap64 (a0 + t574)), .int .i64 a2, .int .i64 a3, .int .i64 a4, .slice A5 l5.length c5] ?_; (with_reducible refine (ih k (by omega) a0 (wrap64 (a0 + t574)) a2 a3 a4 _ _ l5 t575 _ ?side1 ?side2 A12.out).mono ?_); (case side1 => repeat (first | exact HR5.out | (with_reducible refine Kd.C_alloc ?_ _) | (with_reducible refine Kd.C_drewN ?_ _) | (with_reducible refine Kd.C_drew ?_))); (case side2 => exact HC5.out); rintro e w15 ⟨v576, rfl, ho0, hb⟩; refine ⟨_, rfl, ?_⟩; have HO577 := a_ (Kd.R_lower ho0 (below_size bel_)); replace HB := stepB_ hb; (try clear hb); (try clear hk); (try clear ho0)) | (refine gcL_ 74 (some 39) Try.func74 #[.int .i64 (wrap64 (a0 + t574)), .int .i64 a1, .int .i64 a3, .int .i64 a4, .slice A5 l5.length c5] ?_; (with_reducible refine (spec_l3Node.calls k (wrap64 (a0 + t574)) a1 a3 a4 _ _ l5 t578 t579 t580 t581 _ ?side1 ?side2 A13.out).mono ?_); (case side1 => exact cU_ (Kd.C_below HR5.out HB.out)); (case side2 => exact HC5.out); rintro e w16 ⟨rfl, hb⟩; refine ⟨_, rfl, ?_⟩; replace HO577 := rb_ HO577.out hb; replace HB := stepB_ hb; (try clear hb); (try clear hk)) | ((with_reducible refine gate_builtin (b := .append) (xs := #[.tmp 33, .tmp 40]) rfl ?_); at_builtin; refine Kd.R_append k29 (w0 := w) w.heap.size rfl (.tmp 33) (.tmp 40) 49 29 (.agg #[(.int .u64 0), (.int .u64 0), (.int .u64 0), (.int .u64 0)]) 32 rfl Try.underlying49 info29 rfl (by decide) (by omega) v576 t575 (⟨t578, t579, t580, t581⟩ : S29) [.int .u64 t578, .int .u64 t579, .int .u64 t580, .int .u64 t581] (fun _ => True) (fun _ => False) rfl rfl ?aP (fun _ hk => hk.elim) ?aF ?aO ?aB ?aS ?aL ?_; (case aP => exact k29_mkM _ _ _ (⟨t578, t579, t580, t581⟩ : S29)); (case aB => exact bel_); (case aF => exact (fun _ _ => trivial)); (case aO => exact (kdU_ HO577.out)); (case aS => exact (below_size bel_)); (case aL => have := LMc14.out; omega); intro v583 w17 ho hb hg hat; rw [← Ny582.out] at ho; replace HB := a_ (hb); have HO584 := a_ (ho); clear HO577; clear ho hb hg hat))
    go_ret
    exact ⟨_, rfl_, by (with_reducible repeat (first | apply Kd.R_alloc | apply Kd.R_drewN | apply Kd.R_drew)); exact HO584.out, bel_⟩
   ·rw [if_neg c14] at H
    exact absurd H (by simp)
  ·rw [if_neg c11] at H
   have c11b0 := decide_eq_false c11
   clear c11
   obtain ⟨t585, A18, H⟩ := bnd_ H
   obtain ⟨⟨t588, t589, t590, t591⟩, A19, H⟩ := bnd_ H
   dsimp only at H
   by_cases c20 : t585.length < 4398046511104
   ·rw [if_pos c20] at H
    have LMc20 := Aside0.mk c20
    clear c20
    obtain ⟨y592, hy592⟩ : ∃ y_ : List (S29), y_ = (t585 ++ [(⟨t588, t589, t590, t591⟩ : S29)]) := ⟨_, rfl⟩
    replace H : (some y592) = some r := rpl_ hy592 H
    have Ny592 := Aside0.mk hy592
    clear hy592
    obtain rfl := Option.some.inj H
    go_enter Try.func85, Try.ntmps85
    go_wp2_with (first | (refine gcL_ 88 (some 22) Try.func88 #[.int .i64 (wrap64 (a1 - a0))] ?_; (with_reducible refine (spec_TreeSplit.calls k (wrap64 (a1 - a0)) t574 _ A10.out).mono ?_); rintro e w' ⟨rfl, ⟨nd, rfl⟩⟩; refine ⟨_, rfl, ?_⟩) | (refine gcL_ 85 (some 48) Try.func85 #[.int .i64 (wrap64 (a0 + t574)), .int .i64 a1, .int .i64 a2, .int .i64 a3, .int .i64 a4, .slice A5 l5.length c5] ?_; (with_reducible refine (ih k (by omega) (wrap64 (a0 + t574)) a1 a2 a3 a4 _ _ l5 t585 _ ?side1 ?side2 A18.out).mono ?_); (case side1 => repeat (first | exact HR5.out | (with_reducible refine Kd.C_alloc ?_ _) | (with_reducible refine Kd.C_drewN ?_ _) | (with_reducible refine Kd.C_drew ?_))); (case side2 => exact HC5.out); rintro e w21 ⟨v586, rfl, ho0, hb⟩; refine ⟨_, rfl, ?_⟩; have HO587 := a_ (Kd.R_lower ho0 (below_size bel_)); replace HB := stepB_ hb; (try clear hb); (try clear hk); (try clear ho0)) | (refine gcL_ 74 (some 54) Try.func74 #[.int .i64 a0, .int .i64 (wrap64 (a0 + t574)), .int .i64 a3, .int .i64 a4, .slice A5 l5.length c5] ?_; (with_reducible refine (spec_l3Node.calls k a0 (wrap64 (a0 + t574)) a3 a4 _ _ l5 t588 t589 t590 t591 _ ?side1 ?side2 A19.out).mono ?_); (case side1 => exact cU_ (Kd.C_below HR5.out HB.out)); (case side2 => exact HC5.out); rintro e w22 ⟨rfl, hb⟩; refine ⟨_, rfl, ?_⟩; replace HO587 := rb_ HO587.out hb; replace HB := stepB_ hb; (try clear hb); (try clear hk)) | ((with_reducible refine gate_builtin (b := .append) (xs := #[.tmp 48, .tmp 55]) rfl ?_); at_builtin; refine Kd.R_append k29 (w0 := w) w.heap.size rfl (.tmp 48) (.tmp 55) 49 29 (.agg #[(.int .u64 0), (.int .u64 0), (.int .u64 0), (.int .u64 0)]) 32 rfl Try.underlying49 info29 rfl (by decide) (by omega) v586 t585 (⟨t588, t589, t590, t591⟩ : S29) [.int .u64 t588, .int .u64 t589, .int .u64 t590, .int .u64 t591] (fun _ => True) (fun _ => False) rfl rfl ?aP (fun _ hk => hk.elim) ?aF ?aO ?aB ?aS ?aL ?_; (case aP => exact k29_mkM _ _ _ (⟨t588, t589, t590, t591⟩ : S29)); (case aB => exact bel_); (case aF => exact (fun _ _ => trivial)); (case aO => exact (kdU_ HO587.out)); (case aS => exact (below_size bel_)); (case aL => have := LMc20.out; omega); intro v593 w23 ho hb hg hat; rw [← Ny592.out] at ho; replace HB := a_ (hb); have HO594 := a_ (ho); clear HO587; clear ho hb hg hat))
    go_ret
    exact ⟨_, rfl_, by (with_reducible repeat (first | apply Kd.R_alloc | apply Kd.R_drewN | apply Kd.R_drew)); exact HO594.out, bel_⟩
   ·rw [if_neg c20] at H
    exact absurd H (by simp)
end
end
end Go.Proofs.Ytflckegggopdnaa.B
