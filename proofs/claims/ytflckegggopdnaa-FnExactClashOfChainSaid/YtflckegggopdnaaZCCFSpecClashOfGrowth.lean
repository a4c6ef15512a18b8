/- What the Go functions of these names do; condition: .f gives an answer. -/
import Derived.Test.YtflckegggopdnaaZCCP0
import Derived.Test.YtflckegggopdnaaZCCP2
import Derived.Test.YtflckegggopdnaaZCCP17
import Derived.Test.YtflckegggopdnaaZCCP18
import Derived.Test.YtflckegggopdnaaZCCP9
import Derived.Test.YtflckegggopdnaaZCCP4
import Derived.Test.YtflckegggopdnaaZCCP8
import Derived.Test.YtflckegggopdnaaZCCP14
set_option linter.unusedVariables false
set_option maxHeartbeats 8000000
set_option maxRecDepth 100000
set_option linter.unusedSimpArgs false
namespace Go.Proofs.Ytflckegggopdnaa.B
open Go.RowKit Go.Proofs.YtflckegggopdnaaW
section
mutual
def spec_ClashOfGrowth.j0 : Nat → Int → ByteArray → List (S29) → Bool → Int → Int → Int → Int → Int → Int → Int → Int → Int → Int → List (S29) → Option (ByteArray × ByteArray × Bool)
 | 0, _, _, _, _, _, _, _, _, _, _, _, _, _, _, _ => none
 | k + 1, x0, x2, x3, x14, x4, x10, x11, x12, x13, x1, x5, x6, x7, x8, x9 => if x14 = true then (some ((⟨#[]⟩ : ByteArray), (⟨#[]⟩ : ByteArray), false)) else ((spec_GrowthLift.f k x4 x1 x0 x3 x9).bind fun bt0 => (if bt0.2 = true then ((spec_PathCheck.f k x1 x5 x6 x7 x8 x0 x2 bt0.1).bind fun t0 => (spec_ClashOfGrowth.j1 k x0 x2 x3 t0 x4 x10 x11 x12 x13 x1 x5 x6 x7 x8 x9)) else (spec_ClashOfGrowth.j1 k x0 x2 x3 true x4 x10 x11 x12 x13 x1 x5 x6 x7 x8 x9)))
def spec_ClashOfGrowth.j1 : Nat → Int → ByteArray → List (S29) → Bool → Int → Int → Int → Int → Int → Int → Int → Int → Int → Int → List (S29) → Option (ByteArray × ByteArray × Bool)
 | 0, _, _, _, _, _, _, _, _, _, _, _, _, _, _, _ => none
 | k + 1, x1, x3, x4, x5, x0, x6, x7, x8, x9, x10, x11, x12, x13, x14, x2 => if x5 = true then (some ((⟨#[]⟩ : ByteArray), (⟨#[]⟩ : ByteArray), false)) else ((spec_l4Down.f k x0 x1 x3 x4).bind fun t1 => ((spec_PeaksCount.f k x0).bind fun t0 => (if 0 ≤ t0 then (if t0 ≤ (x2.length : Int) then ((spec_l4Peaks.f k x0 x1 (x2.take (t0 : Int).toNat)).bind fun t2 => ((spec_ClashFirst.f k t1 t2).bind fun bt0 => (some (bt0.1, bt0.2.1, bt0.2.2)))) else (none)) else (none))))
end
def spec_ClashOfGrowth.f (k : Nat) (a0 a1 a2 a3 a4 a5 a6 a7 a8 a9 : Int) (l3 : List (S29)) (a10 : Int) (a11 : ByteArray) (l4 : List (S29)) : Option (ByteArray × ByteArray × Bool) := (spec_PathCheck.f k a0 a1 a2 a3 a4 a10 a11 l4).bind fun t0 => (if t0 = true then ((spec_GrowthCheck.f k a0 a1 a2 a3 a4 a5 a6 a7 a8 a9 l3).bind fun t1 => (spec_ClashOfGrowth.j0 k a10 a11 l4 (t1 != 0) a0 a1 a2 a3 a4 a5 a6 a7 a8 a9 l3)) else (spec_ClashOfGrowth.j0 k a10 a11 l4 true a0 a1 a2 a3 a4 a5 a6 a7 a8 a9 l3))
def spec_ClashOfGrowth.T6 : TT_ := (true, [([], []), ([0], [0]), ([], []), ([], []), ([], []), ([1, 2, 3, 4], [1, 2, 3, 4]), ([], []), ([6], [6]), ([], []), ([], []), ([9], [9]), ([], []), ([11], [11]), ([12, 5], [12]), ([10, 13], [10, 13]), ([7, 8, 14, 13], [7, 8, 14]), ([5, 15, 15], [5, 15]), ([16], [16]), ([16], [16]), ([17, 16, 0, 1, 2, 3, 4, 5, 6, 7, 8, 9, 10, 11, 12, 13, 14, 15, 16, 17, 18], [17]), ([18, 19, 0, 1, 2, 3, 4, 5, 6, 7, 8, 9, 10, 11, 12, 13, 14, 15, 16, 17, 18, 19], [18])])
def spec_ClashOfGrowth.B6 : List Nat := [0, 1, 0, 0, 0, 31, 0, 64, 0, 0, 512, 0, 2048, 6207, 15935, 32767, 65535, 131071, 131071, 524287, 1048575]
theorem spec_ClashOfGrowth.tab6 : rtab .any (opsOf Try.f19 6) = spec_ClashOfGrowth.T6 := by kernel_rfl
theorem spec_ClashOfGrowth.bits6 : waitsOk spec_ClashOfGrowth.T6.2 spec_ClashOfGrowth.B6 = true := by kernel_rfl
theorem spec_ClashOfGrowth.calls (k : Nat) (a0 a2 a3 a4 a5 a1 a6 a7 a8 a9 : Int) (A0 : Option Addr) (c0 : Nat) (l3 : List (S29)) (a10 : Int) (a11 : ByteArray) (A1 : Option Addr) (c4 : Nat) (l4 : List (S29)) (r0 r1 : ByteArray) (r2 : Bool) (w : World) (hr1_5 : Kd.C k29 w A0 l3.length l3) (hc1_5 : l3.length ≤ c0) (hr4 : Kd.C k29 w A1 l4.length l4) (hc4 : l4.length ≤ c4) (h : spec_ClashOfGrowth.f k a0 a2 a3 a4 a5 a1 a6 a7 a8 a9 l3 a10 a11 l4 = some (r0, r1, r2)) :
  Calls Try.prog 19 #[.agg #[.int .i64 a0, .int .u64 a2, .int .u64 a3, .int .u64 a4, .int .u64 a5], .agg #[.int .i64 a1, .int .u64 a6, .int .u64 a7, .int .u64 a8, .int .u64 a9, .slice A0 l3.length c0], .int .i64 a10, .string a11, .slice A1 l4.length c4] w fun e w' => e = .returned (.tuple #[.agg #[.string r0, .string r1], .bool r2]) ∧ Below w.heap.size w w' := by
 have hu31 := Try.underlying31
 have hu51 := Try.underlying51
 have hu46 := Try.underlying46
 have HR1_5 := a_ hr1_5
 have HC1_5 := a_ hc1_5
 clear hr1_5 hc1_5
 have HR4 := a_ hr4
 have HC4 := a_ hc4
 clear hr4 hc4
 have HB := rB_ w
 have H := h
 unfold spec_ClashOfGrowth.f at H
 clear h
 have HC6 := a_ H
 clear H
 go_enter Try.func19, Try.ntmps19
 go_upto_region 1 with (first | ((with_reducible refine gate_dst (N := 5) rfl ?_); refine boxE_ (cs := #[.int .i64 a0, .int .u64 a2, .int .u64 a3, .int .u64 a4, .int .u64 a5]) (t := 31) ?_; intro gb1 hg w11 hbox hb; have BK0 := a_ (hbox); have GW0 := sizeB_ hg; replace HB := s_ hb; clear hb hbox hg) | ((with_reducible refine gate_dst (N := 6) rfl ?_); refine boxE_ (cs := #[.int .i64 a1, .int .u64 a6, .int .u64 a7, .int .u64 a8, .int .u64 a9, .slice A0 l3.length c0]) (t := 51) ?_; intro gb2 hg w8 hbox hb; have BK1 := a_ (hbox); have GW1 := sizeB_ hg; replace HB := s_ hb; obtain ⟨NB4, NB5⟩ := ne2_ BK0.out hg; replace BK0 := bb_ BK0.out hb; clear hb hbox hg) | ((with_reducible refine gate_dst (N := 10) rfl ?_); refine boxE_ (cs := #[.string (⟨#[]⟩ : ByteArray), .string (⟨#[]⟩ : ByteArray)]) (t := 46) ?_; intro gb0 hg w12 hbox hb; have BK2 := a_ (hbox); have GW2 := sizeB_ hg; replace HB := s_ hb; obtain ⟨NB1, NB2⟩ := ne2_ BK0.out hg; replace BK0 := bb_ BK0.out hb; obtain ⟨NB0, NB3⟩ := ne2_ BK1.out hg; replace BK1 := bb_ BK1.out hb; clear hb hbox hg))
 (try simp only [Act.put, List.setIfInBounds_toArray, List.set_cons_zero, List.set_cons_succ])
 go_cut [28] (fun v0 wc => ∃ (kq : Nat) (x0 : Bool), v0 = .bool x0 ∧ Aside0 (spec_ClashOfGrowth.j0 kq a10 a11 l4 x0 a0 a2 a3 a4 a5 a1 a6 a7 a8 a9 l3 = some (r0, r1, r2)) ∧ Aside0 (kq ≤ k) ∧ Aside0 (wc.heap[gb1]? = some (.cells #[.int .i64 a0, .int .u64 a2, .int .u64 a3, .int .u64 a4, .int .u64 a5] 31 (0, 0))) ∧ Aside0 (wc.heap[gb2]? = some (.cells #[.int .i64 a1, .int .u64 a6, .int .u64 a7, .int .u64 a8, .int .u64 a9, (.slice A0 l3.length c0)] 51 (0, 0))) ∧ Aside0 (wc.heap[gb0]? = some (.cells #[.string (⟨#[]⟩ : ByteArray), .string (⟨#[]⟩ : ByteArray)] 46 (0, 0))) ∧ Aside0 (Below w.heap.size w wc))
 case first =>
  have H := HC6.out
  clear HC6
  obtain ⟨t3, A2, H⟩ := bnd_ H
  by_cases c1 : t3 = true
  ·subst c1
   rw [if_pos rfl] at H
   obtain ⟨t4, A3, H⟩ := bnd_ H
   have H' := a_ H
   clear H
   have hnb0 := NB4.out
   have hnc0 := NB5.out
   have hnb1 := NB1.out
   have hnc1 := NB2.out
   obtain ⟨z0, z1, z2, z3, z4, f0, f1, f2, f3, f4⟩ := cz5_ BK0.out
   go_wp2_with (first | (refine gcB_ 46 18 Try.func46 (spec_PathCheck.calls _ _ _ _ _ _ _ _ _ _ _ _ _ ?side1 ?side2 A2.out) ?_; (case side1 => exact cU_ (Kd.C_below HR4.out HB.out)); (case side2 => exact HC4.out); intro w2 hb; replace BK0 := bb_ BK0.out hb; replace BK1 := bb_ BK1.out hb; replace BK2 := bb_ BK2.out hb; replace HB := s_ hb; clear hb; obtain ⟨z5, z6, z7, z8, z9, f5, f6, f7, f8, f9⟩ := cz5_ BK0.out; have hnb2 := NB0.out; have hnc2 := NB3.out; obtain ⟨z10, z11, z12, z13, z14, z15, f10, f11, f12, f13, f14, f15⟩ := cz6_ BK1.out) | (go_at_call 35; (with_reducible refine (spec_GrowthCheck.calls _ _ _ _ _ _ _ _ _ _ _ _ _ _ _ _ ?side1 ?side2 A3.out).mono ?_); (case side1 => exact cU_ (Kd.C_below HR1_5.out HB.out)); (case side2 => exact HC1_5.out); rintro e w3 ⟨rfl, hb⟩; replace BK0 := bb_ BK0.out hb; replace BK1 := bb_ BK1.out hb; replace BK2 := bb_ BK2.out hb; replace HB := s_ hb; clear hb))
   go_meet
   case rel => exact ⟨_, ((t4 != 0)), rl_, H', ⟨by first | omega | exact Nat.le_refl _⟩, ⟨blkU_ BK0.out⟩, ⟨blkU_ BK1.out⟩, ⟨blkU_ BK2.out⟩, ⟨bel_⟩⟩
  ·replace c1 := Bool.eq_false_iff.mpr c1
   subst c1
   rw [if_neg (show ¬ (false = true) by decide)] at H
   have H' := a_ H
   clear H
   have hnb3 := NB4.out
   have hnc3 := NB5.out
   have hnb4 := NB1.out
   have hnc4 := NB2.out
   obtain ⟨z16, z17, z18, z19, z20, f16, f17, f18, f19, f20⟩ := cz5_ BK0.out
   go_wp2_with (first | (refine gcB_ 46 18 Try.func46 (spec_PathCheck.calls _ _ _ _ _ _ _ _ _ _ _ _ _ ?side1 ?side2 A2.out) ?_; (case side1 => exact cU_ (Kd.C_below HR4.out HB.out)); (case side2 => exact HC4.out); intro w4 hb; replace BK0 := bb_ BK0.out hb; replace BK1 := bb_ BK1.out hb; replace BK2 := bb_ BK2.out hb; replace HB := s_ hb; clear hb))
   go_meet
   case rel => exact ⟨_, (true), rl_, H', ⟨by first | omega | exact Nat.le_refl _⟩, ⟨blkU_ BK0.out⟩, ⟨blkU_ BK1.out⟩, ⟨blkU_ BK2.out⟩, ⟨bel_⟩⟩
 case rest =>
  clear HC6
  (try clear c4); (try clear c1); (try clear z0 z1 z2 z3 z4); (try clear z5 z6 z7 z8 z9); (try clear z10 z11 z12 z13 z14 z15); (try clear z16 z17 z18 z19 z20); (try clear f0 f1 f2 f3 f4); (try clear f5 f6 f7 f8 f9); (try clear f10 f11 f12 f13 f14 f15); (try clear f16 f17 f18 f19 f20)
  obtain ⟨kq, x0, rfl, HA, HJ5, BK0, BK1, BK2, HB⟩ := hcut
  cases kq with
  | zero => exact absurd HA.out (by simp [spec_ClashOfGrowth.j0])
  | succ kj1 =>
   have H := HA.out
   clear HA
   simp only [spec_ClashOfGrowth.j0] at H
   by_cases c11 : x0 = true
   ·subst c11
    rw [if_pos rfl] at H
    simp only [Option.some.injEq, Prod.mk.injEq] at H
    obtain ⟨rfl, rfl, rfl⟩ := H
    have hnb5 := NB2.out
    have hnc5 := NB1.out
    have hnb6 := NB3.out
    have hnc6 := NB0.out
    obtain ⟨z21, z22, f21, f22⟩ := cz2_ BK2.out
    go_wp2
    refine bodyPost_ret (results_ct rfl _ _ gb0 46 #[.string (⟨#[]⟩ : ByteArray), .string (⟨#[]⟩ : ByteArray)] (0, 0) _ rfl (blkF_ BK2.out) Try.underlying46 rfl (by kernel_rfl)) rfl ?_
    exact ⟨rfl_, bel_⟩
   ·replace c11 := Bool.eq_false_iff.mpr c11
    subst c11
    rw [if_neg (show ¬ (false = true) by decide)] at H
    obtain ⟨⟨t9, t5⟩, A4, H⟩ := bnd_ H
    dsimp only at H
    have HC30 := a_ H
    clear H
    have hnb7 := NB4.out
    have hnc7 := NB5.out
    have hnb8 := NB1.out
    have hnc8 := NB2.out
    obtain ⟨z23, z25, z27, z28, z30, f23, f24, f25, f26, f27⟩ := cz5_ BK0.out
    have hnb9 := NB0.out
    have hnc9 := NB3.out
    obtain ⟨z32, z33, z34, z35, z36, z37, f28, f29, f30, f31, f32, f33⟩ := cz6_ BK1.out
    go_upto_region 4 with (first | (refine gcL_ 41 (some 40) Try.func41 #[.int .i64 a0, .int .i64 a1, .int .i64 a10, .slice A1 l4.length c4, .slice A0 l3.length c0] ?_; (with_reducible refine (spec_GrowthLift.calls _ _ _ _ _ _ _ _ _ _ _ _ _ ?side1 ?side2 ?side3 ?side4 A4.out).mono ?_); (case side1 => exact cU_ (Kd.C_below HR4.out HB.out)); (case side2 => exact HC4.out); (case side3 => exact cU_ (Kd.C_below HR1_5.out HB.out)); (case side4 => exact HC1_5.out); rintro e w5 ⟨v2, rfl, ho0, hb⟩; refine ⟨_, rfl, ?_⟩; have HO1 := a_ (Kd.R_lower ho0 (below_size bel_)); replace BK0 := bb_ BK0.out hb; replace BK1 := bb_ BK1.out hb; replace BK2 := bb_ BK2.out hb; replace HB := s_ hb; clear hb; (try clear ho0)))
    (try simp only [Act.put, List.setIfInBounds_toArray, List.set_cons_zero, List.set_cons_succ])
    go_cut [52] (fun v1 wc => ∃ (kq : Nat) (x1 : Bool), v1 = .bool x1 ∧ Aside0 (spec_ClashOfGrowth.j1 kq a10 a11 l4 x1 a0 a2 a3 a4 a5 a1 a6 a7 a8 a9 l3 = some (r0, r1, r2)) ∧ Aside0 (kq ≤ kj1) ∧ Aside0 (wc.heap[gb1]? = some (.cells #[.int .i64 a0, .int .u64 a2, .int .u64 a3, .int .u64 a4, .int .u64 a5] 31 (0, 0))) ∧ Aside0 (wc.heap[gb2]? = some (.cells #[.int .i64 a1, .int .u64 a6, .int .u64 a7, .int .u64 a8, .int .u64 a9, (.slice A0 l3.length c0)] 51 (0, 0))) ∧ Aside0 (wc.heap[gb0]? = some (.cells #[.string (⟨#[]⟩ : ByteArray), .string (⟨#[]⟩ : ByteArray)] 46 (0, 0))) ∧ Aside0 (Below w.heap.size w wc))
    case first =>
     have H := HC30.out
     clear HC30
     by_cases c12 : t5 = true
     ·subst c12
      rw [if_pos rfl] at H
      obtain ⟨t6, A5, H⟩ := bnd_ H
      have H' := a_ H
      clear H
      have hnb10 := NB5.out
      have hnc10 := NB4.out
      have hnb11 := NB0.out
      have hnc11 := NB3.out
      obtain ⟨z38, z39, z40, z41, z43, z44, f34, f35, f36, f37, f38, f39⟩ := cz6_ BK1.out
      obtain ⟨Ao2, co2, eo2⟩ := Kd.R_slice HO1.out
      subst eo2
      go_wp2_with (first | (go_at_call 46; (with_reducible refine (spec_PathCheck.calls _ _ _ _ _ _ _ _ _ _ _ _ _ ?side1 ?side2 A5.out).mono ?_); (case side1 => exact cU_ (Kd.R_reads' HO1.out).2.2); (case side2 => exact (Kd.R_reads' HO1.out).2.1); rintro e w6 ⟨rfl, hb⟩; replace HO1 := rb_ HO1.out hb; replace BK0 := bb_ BK0.out hb; replace BK1 := bb_ BK1.out hb; replace BK2 := bb_ BK2.out hb; replace HB := s_ hb; clear hb))
      go_meet
      case rel => exact ⟨_, (t6), rl_, H', ⟨by have := HJ5.out; first | omega | exact Nat.le_refl _⟩, ⟨blkU_ BK0.out⟩, ⟨blkU_ BK1.out⟩, ⟨blkU_ BK2.out⟩, ⟨bel_⟩⟩
     ·replace c12 := Bool.eq_false_iff.mpr c12
      subst c12
      rw [if_neg (show ¬ (false = true) by decide)] at H
      have H' := a_ H
      clear H
      go_wp2
      go_meet
      case rel => exact ⟨_, (true), rl_, H', ⟨by have := HJ5.out; first | omega | exact Nat.le_refl _⟩, ⟨blkU_ BK0.out⟩, ⟨blkU_ BK1.out⟩, ⟨blkU_ BK2.out⟩, ⟨bel_⟩⟩
    case rest =>
     clear HC30
     (try clear c4); (try clear c1); (try clear c11); (try clear c12); (try clear z0 z1 z2 z3 z4); (try clear z5 z6 z7 z8 z9); (try clear z10 z11 z12 z13 z14 z15); (try clear z16 z17 z18 z19 z20); (try clear z21 z22); (try clear z23 z25 z27 z28 z30); (try clear z32 z33 z34 z35 z36 z37); (try clear z38 z39 z40 z41 z43 z44); (try clear f0 f1 f2 f3 f4); (try clear f5 f6 f7 f8 f9); (try clear f10 f11 f12 f13 f14 f15); (try clear f16 f17 f18 f19 f20); (try clear f21 f22); (try clear f23 f24 f25 f26 f27); (try clear f28 f29 f30 f31 f32 f33); (try clear f34 f35 f36 f37 f38 f39)
     obtain ⟨kq, x1, rfl, HA, HJ29, BK0, BK1, BK2, HB⟩ := hcut
     cases kq with
     | zero => exact absurd HA.out (by simp [spec_ClashOfGrowth.j1])
     | succ kj0 =>
      have H := HA.out
      clear HA
      simp only [spec_ClashOfGrowth.j1] at H
      by_cases c13 : x1 = true
      ·subst c13
       rw [if_pos rfl] at H
       simp only [Option.some.injEq, Prod.mk.injEq] at H
       obtain ⟨rfl, rfl, rfl⟩ := H
       have hnb12 := NB2.out
       have hnc12 := NB1.out
       have hnb13 := NB3.out
       have hnc13 := NB0.out
       obtain ⟨z45, z46, f40, f41⟩ := cz2_ BK2.out
       go_wp2
       refine bodyPost_ret (results_ct rfl _ _ gb0 46 #[.string (⟨#[]⟩ : ByteArray), .string (⟨#[]⟩ : ByteArray)] (0, 0) _ rfl (blkF_ BK2.out) Try.underlying46 rfl (by kernel_rfl)) rfl ?_
       exact ⟨rfl_, bel_⟩
      ·replace c13 := Bool.eq_false_iff.mpr c13
       subst c13
       rw [if_neg (show ¬ (false = true) by decide)] at H
       obtain ⟨t2, A6, H⟩ := bnd_ H
       obtain ⟨t0, A7, H⟩ := bnd_ H
       obtain ⟨c14, H⟩ := ifn_ H
       have c16 := eq_true c14
       have c17 := decide_eq_true c14
       clear c14
       obtain ⟨c15, H⟩ := ifn_ H
       have c18 := eq_true c15
       have c19 := decide_eq_true c15
       clear c15
       obtain ⟨y0, hy1⟩ : ∃ y_ : List (S29), y_ = (l3.take (t0 : Int).toNat) := ⟨_, rfl⟩
       replace H : ((spec_l4Peaks.f kj0 a0 a10 y0).bind fun t1 => ((spec_ClashFirst.f kj0 t2 t1).bind fun bt0 => (some (bt0.1, bt0.2.1, bt0.2.2)))) = some (r0, r1, r2) := rpl_ hy1 H
       have Ny0 := a_ hy1
       clear hy1
       obtain ⟨t1, A8, H⟩ := bnd_ H
       obtain ⟨⟨t7, t8, t10⟩, A9, H⟩ := bnd_ H
       dsimp only at H
       simp only [Option.some.injEq, Prod.mk.injEq] at H
       obtain ⟨rfl, rfl, rfl⟩ := H
       try go_wp2
       replace BK0 := a_ (blk_drew BK0.out)
       replace BK1 := a_ (blk_drew BK1.out)
       replace BK2 := a_ (blk_drew BK2.out)
       replace HB := a_ (below_drew1 HB.out)
       refine start_ (n := 21) (S := fun w' => hdc5_ w' gb1 (.int .i64 a0) (.int .u64 a2) (.int .u64 a3) (.int .u64 a4) (.int .u64 a5) (hd6_ w' gb2 (.int .i64 a1) (.int .u64 a6) (.int .u64 a7) (.int .u64 a8) (.int .u64 a9) (.slice A0 l3.length c0))) (ds := []) #[false, false, false, false, false, false, false, false, false, false, false, false, false, false, false, false, false, false, false, false, false] (by kernel_rfl) rfl rfl (hcc5_ BK0.out (hc6_ BK1.out)) (fun hHeld => ?_); refine with_tabW spec_ClashOfGrowth.tab6 spec_ClashOfGrowth.bits6 (fun HT HW_ => ?_)
       generalize wc.drew = w7 at BK0 BK1 BK2 HB hHeld ⊢
       refine qP_ 0 54 21 1 ?_
       refine qP_ 2 56 21 5 ?_
       refine qP_ 3 57 21 13 ?_
       refine qP_ 4 58 21 29 ?_
       refine qP_ 6 60 21 93 ?_
       refine qP_ 8 62 21 349 ?_
       refine qP_ 9 63 21 861 ?_
       refine qP_ 11 65 21 2909 ?_
       refine qT_ 1 55 21 2911 ?_
       refine qT_ 7 61 21 3039 ?_
       refine qT_ 10 64 21 4063 ?_
       refine qT_ 12 66 21 8159 ?_
       refine oneP_ 5 (some 59) (b_ 21 8191) HT (fun K hK => ?_)
       refine goN_ Try.func48 #[.int .i64 a0, .int .i64 a10, .string a11, .slice A1 l4.length c4] ?_
       with_reducible refine (spec_l4Down.calls _ _ _ _ _ _ _ _ _ ?side1 ?side2 A6.out).mono ?_
       (case side1 => exact cU_ (Kd.C_below HR4.out HB.out))
       (case side2 => exact HC4.out)
       rintro e w9 ⟨v3, rfl, ho0, hb⟩
       refine ⟨_, rfl, ?_⟩
       have HO0 := a_ (Kd.R_lower ho0 (below_size bel_))
       replace BK0 := bb_ BK0.out hb
       replace BK1 := bb_ BK1.out hb
       replace BK2 := bb_ BK2.out hb
       replace HB := s_ hb
       (try clear hb); (try clear ho0)
       refine hK.out _ _ (hcc5_ BK0.out (hc6_ BK1.out)) (fun hHeld => ?_)
       clear hK K
       refine normP_ (some 59) ?_
       refine oneP_ 13 (some 67) (b_ 21 16383) HT (fun K hK => ?_)
       refine goN_ Try.func50 #[.int .i64 a0] ?_
       with_reducible refine (spec_PeaksCount.calls _ _ _ _ A7.out).mono ?_
       rintro e w' ⟨rfl, ⟨nd, rfl⟩⟩
       refine ⟨_, rfl, ?_⟩
       have q0 : (t0 : Int) ≤ ((l3.length : Int) : Int) := ofd_
       obtain ⟨i056, hi0, _, hsz56, _⟩ := info_parts info29
       have hroom56 : l3.length ≤ c0 := HC1_5.out
       have hC56 : Kd.C k29 _ A0 l3.length l3 := HR1_5.out
       have hcut56 := cut_to (P := Try.prog) 49 29 .i64 Try.underlying49 hi0 A0 l3.length c0 t0 (ofd_) q0 hroom56
       have hr56 := Kd.C_take (m := (t0 : Int).toNat) hC56 (by omega)
       have hy0 : y0.length = (t0 : Int).toNat := (by rw [Ny0.out, List.length_take]; omega)
       rw [← Ny0.out] at hr56
       rw [← hy0] at hcut56
       have HR757 := a_ hr56
       have HC757 := a_ (show y0.length ≤ c0 from by omega)
       clear hr56 hC56 hroom56 hi0 hsz56
       have KY56 := a_ hy0
       clear hy0
       replace q0 := eq_true q0
       refine hK.out _ _ (hcc5_ BK0.out (hc6_ BK1.out)) (fun hHeld => ?_)
       clear hK K
       refine normP_ (some 67) ?_
       refine qP_ 14 68 21 32767 ?_
       refine oneP_ 15 (some 69) (b_ 21 65535) HT (fun K hK => ?_)
       refine goN_ Try.func49 #[.int .i64 a0, .int .i64 a10, .slice A0 y0.length c0] ?_
       with_reducible refine (spec_l4Peaks.calls _ _ _ _ _ _ _ _ ?side1 ?side2 A8.out).mono ?_
       (case side1 => exact cU_ (Kd.C_below HR757.out bel_))
       (case side2 => exact HC757.out)
       rintro e w10 ⟨v4, rfl, ho0, hb⟩
       refine ⟨_, rfl, ?_⟩
       have HO2 := a_ (Kd.R_lower (Kd.R_new' ho0 (Kd.R_lt (kdU_ HO0.out))) (below_size bel_))
       replace HO0 := a_ (Kd.R_elder' (kdU_ HO0.out) (Kd.R_base ho0) hb)
       replace BK0 := bb_ BK0.out hb
       replace BK1 := bb_ BK1.out hb
       replace BK2 := bb_ BK2.out hb
       replace HB := s_ hb
       (try clear hb); (try clear ho0)
       obtain ⟨Ao0, co0, eo0⟩ := Kd.R_slice HO0.out
       (first | subst eo0 | (injection eo0 with f1_ f2_ f3_; have f4_ := f1_.symm; have f5_ := f3_.symm; clear f1_ f2_ f3_; subst f4_; subst f5_))
       obtain ⟨Ao1, co1, eo1⟩ := Kd.R_slice HO2.out
       (first | subst eo1 | (injection eo1 with f1_ f2_ f3_; have f4_ := f1_.symm; have f5_ := f3_.symm; clear f1_ f2_ f3_; subst f4_; subst f5_))
       refine hK.out _ _ (hcc5_ BK0.out (hc6_ BK1.out)) (fun hHeld => ?_)
       clear hK K
       refine normP_ (some 69) ?_
       refine oneP_ 16 (some 70) (b_ 21 131071) HT (fun K hK => ?_)
       refine goN_ Try.func47 #[.slice Ao0 t2.length co0, .slice Ao1 t1.length co1] ?_
       with_reducible refine (spec_ClashFirst.calls _ _ _ _ _ _ _ _ _ _ _ ?side1 ?side2 ?side3 ?side4 A9.out).mono ?_
       (case side1 => exact cU_ (Kd.R_reads' HO0.out).2.2)
       (case side2 => exact (Kd.R_reads' HO0.out).2.1)
       (case side3 => exact cU_ (Kd.R_reads' HO2.out).2.2)
       (case side4 => exact (Kd.R_reads' HO2.out).2.1)
       rintro e w1 ⟨rfl, hb⟩
       refine ⟨_, rfl, ?_⟩
       replace HO0 := rb_ HO0.out hb
       replace HO2 := rb_ HO2.out hb
       replace BK0 := bb_ BK0.out hb
       replace BK1 := bb_ BK1.out hb
       replace BK2 := bb_ BK2.out hb
       replace HB := s_ hb
       (try clear hb)
       refine hK.out _ _ (hcc5_ BK0.out (hc6_ BK1.out)) (fun hHeld => ?_)
       clear hK K
       refine normP_ (some 70) ?_
       refine qP_ 17 71 21 262143 ?_
       refine qP_ 18 72 21 524287 ?_
       refine oneP_ 19 none (b_ 21 1048575) HT (fun K hK => ?_)
       have hs0 : w1.cell? ⟨gb0, 0, none⟩ = some (.string (⟨#[]⟩ : ByteArray)) := (blk_cell BK2.out 0).trans rfl
       have hfs61 := blk_frozen BK2.out 0
       have hns61_0 := NB1.out
       have hns61_1 := NB0.out
       have hms61_0 := NB2.out
       have hms61_1 := NB3.out
       have hs1 : w1.cell? ⟨gb0, 1, none⟩ = some (.string (⟨#[]⟩ : ByteArray)) := (blk_cell BK2.out 1).trans rfl
       have hfs62 := blk_frozen BK2.out 1
       have hns62_0 := NB1.out
       have hns62_1 := NB0.out
       have hms62_0 := NB2.out
       have hms62_1 := NB3.out
       refine skip_ (w1 := ?_) (by rfl) rfl ?_ ?_
       rotate_left
       ·go_simp
        rfl
       refine hK.out _ _ ⟨(cf2_ NB1.out hHeld.1), (cf2_ NB1.out hHeld.2.1), (cf2_ NB1.out hHeld.2.2.1), (cf2_ NB1.out hHeld.2.2.2.1), (cf2_ NB1.out hHeld.2.2.2.2.1), (cf2_ NB0.out hHeld.2.2.2.2.2.1), (cf2_ NB0.out hHeld.2.2.2.2.2.2.1), (cf2_ NB0.out hHeld.2.2.2.2.2.2.2.1), (cf2_ NB0.out hHeld.2.2.2.2.2.2.2.2.1), (cf2_ NB0.out hHeld.2.2.2.2.2.2.2.2.2.1), (cf2_ NB0.out hHeld.2.2.2.2.2.2.2.2.2.2)⟩ (fun hHeld => ?_)
       clear hK K
       refine qP_ 20 11 21 2097151 ?_
       refine done_ (done_of HT.out (by kernel_rfl)) ?_
       try go_wp2
       refine bodyPost_ret (results_ct rfl _ _ gb0 46 #[.string t7, .string t8] (0, 0) _ rfl (blkF_ BK2.out) Try.underlying46 rfl (by kernel_rfl)) rfl ?_
       exact ⟨rfl_, bel_⟩
end
end Go.Proofs.Ytflckegggopdnaa.B
