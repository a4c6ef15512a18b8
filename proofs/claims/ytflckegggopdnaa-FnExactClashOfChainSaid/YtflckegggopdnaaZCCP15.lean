/- Texts that this claim's law leans on, without what nothing names. What each says stands at its theorems; conditions stand in them. (Put together by the session's program shake.py; Lean checks it.) -/
import Derived.Test.YtflckegggopdnaaZCCP0
import Derived.Test.YtflckegggopdnaaZCCP2
import Derived.Test.YtflckegggopdnaaZCCP10
import Derived.Test.YtflckegggopdnaaZCCP11
import Derived.Test.YtflckegggopdnaaZCCP9
import Derived.Test.YtflckegggopdnaaZCCP4
import Derived.Test.YtflckegggopdnaaZCCP8
import Derived.Test.YtflckegggopdnaaZCCP14
set_option linter.unusedVariables false
set_option maxHeartbeats 8000000
set_option maxRecDepth 100000
set_option linter.unusedSimpArgs false
namespace Go.Proofs.Ytflckegggopdnaa.B
section
open Go.RowKit Go.Proofs.YtflckegggopdnaaW
section
mutual
def impl_ClashOfGrowth.j0 : Nat → Int → ByteArray → List (S29) → Bool → Int → Int → Int → Int → Int → Int → Int → Int → Int → Int → List (S29) → Option (ByteArray × ByteArray × Bool)
 | 0, _, _, _, _, _, _, _, _, _, _, _, _, _, _, _ => none
 | k + 1, x0, x2, x3, x14, x4, x10, x11, x12, x13, x1, x5, x6, x7, x8, x9 => if x14 = true then (some ((⟨#[]⟩ : ByteArray), (⟨#[]⟩ : ByteArray), false)) else ((impl_GrowthLift.f k x4 x1 x0 x3 x9).bind fun bt0 => (if bt0.2 = true then ((impl_PathCheck.f k x1 x5 x6 x7 x8 x0 x2 bt0.1).bind fun t0 => (impl_ClashOfGrowth.j1 k x0 x2 x3 t0 x4 x10 x11 x12 x13 x1 x5 x6 x7 x8 x9)) else (impl_ClashOfGrowth.j1 k x0 x2 x3 true x4 x10 x11 x12 x13 x1 x5 x6 x7 x8 x9)))
def impl_ClashOfGrowth.j1 : Nat → Int → ByteArray → List (S29) → Bool → Int → Int → Int → Int → Int → Int → Int → Int → Int → Int → List (S29) → Option (ByteArray × ByteArray × Bool)
 | 0, _, _, _, _, _, _, _, _, _, _, _, _, _, _, _ => none
 | k + 1, x1, x3, x4, x5, x0, x6, x7, x8, x9, x10, x11, x12, x13, x14, x2 => if x5 = true then (some ((⟨#[]⟩ : ByteArray), (⟨#[]⟩ : ByteArray), false)) else ((impl_ClashRow.f k x0 x1 x3 x4).bind fun bt1 => ((impl_PeaksCount.f x0).bind fun t0 => (if 0 ≤ t0 then (if t0 ≤ (x2.length : Int) then ((impl_peaksRow.f k x0 x1 (x2.take (t0 : Int).toNat)).bind fun t1 => ((impl_ClashFirst.f k bt1.1 t1).bind fun bt0 => (some (bt0.1, bt0.2.1, bt0.2.2)))) else (none)) else (none))))
end
def impl_ClashOfGrowth.f (k : Nat) (a0 a1 a2 a3 a4 a5 a6 a7 a8 a9 : Int) (l3 : List (S29)) (a10 : Int) (a11 : ByteArray) (l4 : List (S29)) : Option (ByteArray × ByteArray × Bool) := (impl_PathCheck.f k a0 a1 a2 a3 a4 a10 a11 l4).bind fun t0 => (if t0 = true then ((impl_GrowthCheck.f k a0 a1 a2 a3 a4 a5 a6 a7 a8 a9 l3).bind fun t1 => (impl_ClashOfGrowth.j0 k a10 a11 l4 (t1 != 0) a0 a1 a2 a3 a4 a5 a6 a7 a8 a9 l3)) else (impl_ClashOfGrowth.j0 k a10 a11 l4 true a0 a1 a2 a3 a4 a5 a6 a7 a8 a9 l3))
def impl_ClashOfGrowth.T7 : TT_ := (true, [([], []), ([], []), ([1], [1]), ([], []), ([], []), ([4], [4]), ([], []), ([6], [6]), ([7], [7]), ([5, 8], [5, 8]), ([2, 3, 9, 8], [2, 3, 9]), ([0, 10, 10], [0, 10]), ([11], [11]), ([11], [11]), ([12, 11, 0, 1, 2, 3, 4, 5, 6, 7, 8, 9, 10, 11, 12, 13], [12]), ([13, 14, 0, 1, 2, 3, 4, 5, 6, 7, 8, 9, 10, 11, 12, 13, 14], [13])])
def impl_ClashOfGrowth.B7 : List Nat := [0, 0, 2, 0, 0, 16, 0, 64, 192, 496, 1022, 2047, 4095, 4095, 16383, 32767]
theorem impl_ClashOfGrowth.tab7 : rtab .any (opsOf Try.f22 7) = impl_ClashOfGrowth.T7 := by kernel_rfl
theorem impl_ClashOfGrowth.bits7 : waitsOk impl_ClashOfGrowth.T7.2 impl_ClashOfGrowth.B7 = true := by kernel_rfl
theorem impl_ClashOfGrowth.calls (k : Nat) (a0 a2 a3 a4 a5 a1 a6 a7 a8 a9 : Int) (A0 : Option Addr) (c0 : Nat) (l3 : List (S29)) (a10 : Int) (a11 : ByteArray) (A1 : Option Addr) (c4 : Nat) (l4 : List (S29)) (r0 r1 : ByteArray) (r2 : Bool) (w : World) (hr1_5 : Kd.C k29 w A0 l3.length l3) (hc1_5 : l3.length ≤ c0) (hr4 : Kd.C k29 w A1 l4.length l4) (hc4 : l4.length ≤ c4) (h : impl_ClashOfGrowth.f k a0 a2 a3 a4 a5 a1 a6 a7 a8 a9 l3 a10 a11 l4 = some (r0, r1, r2)) :
  Calls Try.prog 22 #[.agg #[.int .i64 a0, .int .u64 a2, .int .u64 a3, .int .u64 a4, .int .u64 a5], .agg #[.int .i64 a1, .int .u64 a6, .int .u64 a7, .int .u64 a8, .int .u64 a9, .slice A0 l3.length c0], .int .i64 a10, .string a11, .slice A1 l4.length c4] w fun e w' => e = .returned (.tuple #[.agg #[.string r0, .string r1], .bool r2]) ∧ Below w.heap.size w w' := by
 have hu31 := Try.underlying31
 have hu51 := Try.underlying51
 have hu46 := Try.underlying46
 have HR1_5 := a_ hr1_5
 have HC1_5 := a_ hc1_5
 clear hr1_5 hc1_5
 have HR4 := a_ hr4
 have HC4 := a_ hc4
 clear hr4 hc4
 have HB := rB_ w
 have H := h
 unfold impl_ClashOfGrowth.f at H
 clear h
 have HC6 := a_ H
 clear H
 go_enter Try.func22, Try.ntmps22
 go_upto_region 1 with (first | ((with_reducible refine gate_dst (N := 5) rfl ?_); refine boxE_ (cs := #[.int .i64 a0, .int .u64 a2, .int .u64 a3, .int .u64 a4, .int .u64 a5]) (t := 31) ?_; intro gb1 hg w11 hbox hb; have BK0 := a_ (hbox); have GW0 := sizeB_ hg; replace HB := s_ hb; clear hb hbox hg) | ((with_reducible refine gate_dst (N := 6) rfl ?_); refine boxE_ (cs := #[.int .i64 a1, .int .u64 a6, .int .u64 a7, .int .u64 a8, .int .u64 a9, .slice A0 l3.length c0]) (t := 51) ?_; intro gb2 hg w8 hbox hb; have BK1 := a_ (hbox); have GW1 := sizeB_ hg; replace HB := s_ hb; obtain ⟨NB4, NB5⟩ := ne2_ BK0.out hg; replace BK0 := bb_ BK0.out hb; clear hb hbox hg) | ((with_reducible refine gate_dst (N := 10) rfl ?_); refine boxE_ (cs := #[.string (⟨#[]⟩ : ByteArray), .string (⟨#[]⟩ : ByteArray)]) (t := 46) ?_; intro gb0 hg w12 hbox hb; have BK2 := a_ (hbox); have GW2 := sizeB_ hg; replace HB := s_ hb; obtain ⟨NB0, NB2⟩ := ne2_ BK0.out hg; replace BK0 := bb_ BK0.out hb; obtain ⟨NB1, NB3⟩ := ne2_ BK1.out hg; replace BK1 := bb_ BK1.out hb; clear hb hbox hg))
 (try simp only [Act.put, List.setIfInBounds_toArray, List.set_cons_zero, List.set_cons_succ])
 go_cut [30] (fun v0 wc => ∃ (kq : Nat) (x0 : Bool), v0 = .bool x0 ∧ Aside0 (impl_ClashOfGrowth.j0 kq a10 a11 l4 x0 a0 a2 a3 a4 a5 a1 a6 a7 a8 a9 l3 = some (r0, r1, r2)) ∧ Aside0 (kq ≤ k) ∧ Aside0 (wc.heap[gb1]? = some (.cells #[.int .i64 a0, .int .u64 a2, .int .u64 a3, .int .u64 a4, .int .u64 a5] 31 (0, 0))) ∧ Aside0 (wc.heap[gb2]? = some (.cells #[.int .i64 a1, .int .u64 a6, .int .u64 a7, .int .u64 a8, .int .u64 a9, (.slice A0 l3.length c0)] 51 (0, 0))) ∧ Aside0 (wc.heap[gb0]? = some (.cells #[.string (⟨#[]⟩ : ByteArray), .string (⟨#[]⟩ : ByteArray)] 46 (0, 0))) ∧ Aside0 (Below w.heap.size w wc))
 case first =>
  have H := HC6.out
  clear HC6
  obtain ⟨t3, A2, H⟩ := bnd_ H
  by_cases c1 : t3 = true
  ·subst c1
   rw [if_pos rfl] at H
   obtain ⟨t4, A3, H⟩ := bnd_ H
   have H' := a_ H
   clear H
   have hnb0 := NB4.out
   have hnc0 := NB5.out
   have hnb1 := NB0.out
   have hnc1 := NB2.out
   obtain ⟨z0, z1, z2, z3, z4, f0, f1, f2, f3, f4⟩ := cz5_ BK0.out
   go_wp2_with (first | (refine gcB_ 51 20 Try.func51 (impl_PathCheck.calls _ _ _ _ _ _ _ _ _ _ _ _ _ ?side1 ?side2 A2.out) ?_; (case side1 => exact cU_ (Kd.C_below HR4.out HB.out)); (case side2 => exact HC4.out); intro w3 hb; replace BK0 := bb_ BK0.out hb; replace BK1 := bb_ BK1.out hb; replace BK2 := bb_ BK2.out hb; replace HB := s_ hb; clear hb; obtain ⟨z5, z6, z7, z8, z9, f5, f6, f7, f8, f9⟩ := cz5_ BK0.out; have hnb2 := NB1.out; have hnc2 := NB3.out; obtain ⟨z10, z11, z12, z13, z14, z15, f10, f11, f12, f13, f14, f15⟩ := cz6_ BK1.out) | (go_at_call 33; (with_reducible refine (impl_GrowthCheck.calls _ _ _ _ _ _ _ _ _ _ _ _ _ _ _ _ ?side1 ?side2 A3.out).mono ?_); (case side1 => exact cU_ (Kd.C_below HR1_5.out HB.out)); (case side2 => exact HC1_5.out); rintro e w4 ⟨rfl, hb⟩; replace BK0 := bb_ BK0.out hb; replace BK1 := bb_ BK1.out hb; replace BK2 := bb_ BK2.out hb; replace HB := s_ hb; clear hb))
   go_meet
   case rel => exact ⟨_, ((t4 != 0)), rl_, H', ⟨by first | omega | exact Nat.le_refl _⟩, ⟨blkU_ BK0.out⟩, ⟨blkU_ BK1.out⟩, ⟨blkU_ BK2.out⟩, ⟨bel_⟩⟩
  ·replace c1 := Bool.eq_false_iff.mpr c1
   subst c1
   rw [if_neg (show ¬ (false = true) by decide)] at H
   have H' := a_ H
   clear H
   have hnb3 := NB4.out
   have hnc3 := NB5.out
   have hnb4 := NB0.out
   have hnc4 := NB2.out
   obtain ⟨z16, z17, z18, z19, z20, f16, f17, f18, f19, f20⟩ := cz5_ BK0.out
   go_wp2_with (first | (refine gcB_ 51 20 Try.func51 (impl_PathCheck.calls _ _ _ _ _ _ _ _ _ _ _ _ _ ?side1 ?side2 A2.out) ?_; (case side1 => exact cU_ (Kd.C_below HR4.out HB.out)); (case side2 => exact HC4.out); intro w5 hb; replace BK0 := bb_ BK0.out hb; replace BK1 := bb_ BK1.out hb; replace BK2 := bb_ BK2.out hb; replace HB := s_ hb; clear hb))
   go_meet
   case rel => exact ⟨_, (true), rl_, H', ⟨by first | omega | exact Nat.le_refl _⟩, ⟨blkU_ BK0.out⟩, ⟨blkU_ BK1.out⟩, ⟨blkU_ BK2.out⟩, ⟨bel_⟩⟩
 case rest =>
  clear HC6
  (try clear c4); (try clear c1); (try clear z0 z1 z2 z3 z4); (try clear z5 z6 z7 z8 z9); (try clear z10 z11 z12 z13 z14 z15); (try clear z16 z17 z18 z19 z20); (try clear f0 f1 f2 f3 f4); (try clear f5 f6 f7 f8 f9); (try clear f10 f11 f12 f13 f14 f15); (try clear f16 f17 f18 f19 f20)
  obtain ⟨kq, x0, rfl, HA, HJ5, BK0, BK1, BK2, HB⟩ := hcut
  cases kq with
  | zero => exact absurd HA.out (by simp [impl_ClashOfGrowth.j0])
  | succ kj1 =>
   have H := HA.out
   clear HA
   simp only [impl_ClashOfGrowth.j0] at H
   by_cases c11 : x0 = true
   ·subst c11
    rw [if_pos rfl] at H
    simp only [Option.some.injEq, Prod.mk.injEq] at H
    obtain ⟨rfl, rfl, rfl⟩ := H
    have hnb5 := NB2.out
    have hnc5 := NB0.out
    have hnb6 := NB3.out
    have hnc6 := NB1.out
    obtain ⟨z21, z22, f21, f22⟩ := cz2_ BK2.out
    go_wp2
    refine bodyPost_ret (results_ct rfl _ _ gb0 46 #[.string (⟨#[]⟩ : ByteArray), .string (⟨#[]⟩ : ByteArray)] (0, 0) _ rfl (blkF_ BK2.out) Try.underlying46 rfl (by kernel_rfl)) rfl ?_
    exact ⟨rfl_, bel_⟩
   ·replace c11 := Bool.eq_false_iff.mpr c11
    subst c11
    rw [if_neg (show ¬ (false = true) by decide)] at H
    obtain ⟨⟨t9, t5⟩, A4, H⟩ := bnd_ H
    dsimp only at H
    have HC30 := a_ H
    clear H
    have hnb7 := NB4.out
    have hnc7 := NB5.out
    have hnb8 := NB0.out
    have hnc8 := NB2.out
    obtain ⟨z23, z25, z27, z28, z30, f23, f24, f25, f26, f27⟩ := cz5_ BK0.out
    have hnb9 := NB1.out
    have hnc9 := NB3.out
    obtain ⟨z32, z33, z34, z35, z36, z37, f28, f29, f30, f31, f32, f33⟩ := cz6_ BK1.out
    go_upto_region 4 with (first | (refine gcL_ 38 (some 42) Try.func38 #[.int .i64 a0, .int .i64 a1, .int .i64 a10, .slice A1 l4.length c4, .slice A0 l3.length c0] ?_; (with_reducible refine (impl_GrowthLift.calls _ _ _ _ _ _ _ _ _ _ _ _ _ ?side1 ?side2 ?side3 ?side4 A4.out).mono ?_); (case side1 => exact cU_ (Kd.C_below HR4.out HB.out)); (case side2 => exact HC4.out); (case side3 => exact cU_ (Kd.C_below HR1_5.out HB.out)); (case side4 => exact HC1_5.out); rintro e w6 ⟨v2, rfl, ho0, hb⟩; refine ⟨_, rfl, ?_⟩; have HO1 := a_ (Kd.R_lower ho0 (below_size bel_)); replace BK0 := bb_ BK0.out hb; replace BK1 := bb_ BK1.out hb; replace BK2 := bb_ BK2.out hb; replace HB := s_ hb; clear hb; (try clear ho0)))
    (try simp only [Act.put, List.setIfInBounds_toArray, List.set_cons_zero, List.set_cons_succ])
    go_cut [54] (fun v1 wc => ∃ (kq : Nat) (x1 : Bool), v1 = .bool x1 ∧ Aside0 (impl_ClashOfGrowth.j1 kq a10 a11 l4 x1 a0 a2 a3 a4 a5 a1 a6 a7 a8 a9 l3 = some (r0, r1, r2)) ∧ Aside0 (kq ≤ kj1) ∧ Aside0 (wc.heap[gb1]? = some (.cells #[.int .i64 a0, .int .u64 a2, .int .u64 a3, .int .u64 a4, .int .u64 a5] 31 (0, 0))) ∧ Aside0 (wc.heap[gb2]? = some (.cells #[.int .i64 a1, .int .u64 a6, .int .u64 a7, .int .u64 a8, .int .u64 a9, (.slice A0 l3.length c0)] 51 (0, 0))) ∧ Aside0 (wc.heap[gb0]? = some (.cells #[.string (⟨#[]⟩ : ByteArray), .string (⟨#[]⟩ : ByteArray)] 46 (0, 0))) ∧ Aside0 (Below w.heap.size w wc))
    case first =>
     have H := HC30.out
     clear HC30
     by_cases c12 : t5 = true
     ·subst c12
      rw [if_pos rfl] at H
      obtain ⟨t6, A5, H⟩ := bnd_ H
      have H' := a_ H
      clear H
      have hnb10 := NB5.out
      have hnc10 := NB4.out
      have hnb11 := NB1.out
      have hnc11 := NB3.out
      obtain ⟨z38, z39, z40, z41, z43, z44, f34, f35, f36, f37, f38, f39⟩ := cz6_ BK1.out
      obtain ⟨Ao2, co2, eo2⟩ := Kd.R_slice HO1.out
      subst eo2
      go_wp2_with (first | (go_at_call 51; (with_reducible refine (impl_PathCheck.calls _ _ _ _ _ _ _ _ _ _ _ _ _ ?side1 ?side2 A5.out).mono ?_); (case side1 => exact cU_ (Kd.R_reads' HO1.out).2.2); (case side2 => exact (Kd.R_reads' HO1.out).2.1); rintro e w7 ⟨rfl, hb⟩; replace HO1 := rb_ HO1.out hb; replace BK0 := bb_ BK0.out hb; replace BK1 := bb_ BK1.out hb; replace BK2 := bb_ BK2.out hb; replace HB := s_ hb; clear hb))
      go_meet
      case rel => exact ⟨_, (t6), rl_, H', ⟨by have := HJ5.out; first | omega | exact Nat.le_refl _⟩, ⟨blkU_ BK0.out⟩, ⟨blkU_ BK1.out⟩, ⟨blkU_ BK2.out⟩, ⟨bel_⟩⟩
     ·replace c12 := Bool.eq_false_iff.mpr c12
      subst c12
      rw [if_neg (show ¬ (false = true) by decide)] at H
      have H' := a_ H
      clear H
      go_wp2
      go_meet
      case rel => exact ⟨_, (true), rl_, H', ⟨by have := HJ5.out; first | omega | exact Nat.le_refl _⟩, ⟨blkU_ BK0.out⟩, ⟨blkU_ BK1.out⟩, ⟨blkU_ BK2.out⟩, ⟨bel_⟩⟩
    case rest =>
     clear HC30
     (try clear c4); (try clear c1); (try clear c11); (try clear c12); (try clear z0 z1 z2 z3 z4); (try clear z5 z6 z7 z8 z9); (try clear z10 z11 z12 z13 z14 z15); (try clear z16 z17 z18 z19 z20); (try clear z21 z22); (try clear z23 z25 z27 z28 z30); (try clear z32 z33 z34 z35 z36 z37); (try clear z38 z39 z40 z41 z43 z44); (try clear f0 f1 f2 f3 f4); (try clear f5 f6 f7 f8 f9); (try clear f10 f11 f12 f13 f14 f15); (try clear f16 f17 f18 f19 f20); (try clear f21 f22); (try clear f23 f24 f25 f26 f27); (try clear f28 f29 f30 f31 f32 f33); (try clear f34 f35 f36 f37 f38 f39)
     obtain ⟨kq, x1, rfl, HA, HJ29, BK0, BK1, BK2, HB⟩ := hcut
     cases kq with
     | zero => exact absurd HA.out (by simp [impl_ClashOfGrowth.j1])
     | succ kj0 =>
      have H := HA.out
      clear HA
      simp only [impl_ClashOfGrowth.j1] at H
      by_cases c13 : x1 = true
      ·subst c13
       rw [if_pos rfl] at H
       simp only [Option.some.injEq, Prod.mk.injEq] at H
       obtain ⟨rfl, rfl, rfl⟩ := H
       have hnb12 := NB2.out
       have hnc12 := NB0.out
       have hnb13 := NB3.out
       have hnc13 := NB1.out
       obtain ⟨z45, z46, f40, f41⟩ := cz2_ BK2.out
       go_wp2
       refine bodyPost_ret (results_ct rfl _ _ gb0 46 #[.string (⟨#[]⟩ : ByteArray), .string (⟨#[]⟩ : ByteArray)] (0, 0) _ rfl (blkF_ BK2.out) Try.underlying46 rfl (by kernel_rfl)) rfl ?_
       exact ⟨rfl_, bel_⟩
      ·replace c13 := Bool.eq_false_iff.mpr c13
       subst c13
       rw [if_neg (show ¬ (false = true) by decide)] at H
       obtain ⟨⟨t2, t10⟩, A6, H⟩ := bnd_ H
       dsimp only at H
       obtain ⟨t0, A7, H⟩ := bnd_ H
       obtain ⟨c14, H⟩ := ifn_ H
       have c16 := eq_true c14
       have c17 := decide_eq_true c14
       clear c14
       obtain ⟨c15, H⟩ := ifn_ H
       have c18 := eq_true c15
       have c19 := decide_eq_true c15
       clear c15
       obtain ⟨y0, hy1⟩ : ∃ y_ : List (S29), y_ = (l3.take (t0 : Int).toNat) := ⟨_, rfl⟩
       replace H : ((impl_peaksRow.f kj0 a0 a10 y0).bind fun t1 => ((impl_ClashFirst.f kj0 t2 t1).bind fun bt0 => (some (bt0.1, bt0.2.1, bt0.2.2)))) = some (r0, r1, r2) := rpl_ hy1 H
       have Ny0 := a_ hy1
       clear hy1
       obtain ⟨t1, A8, H⟩ := bnd_ H
       obtain ⟨⟨t7, t8, t11⟩, A9, H⟩ := bnd_ H
       dsimp only at H
       simp only [Option.some.injEq, Prod.mk.injEq] at H
       obtain ⟨rfl, rfl, rfl⟩ := H
       have hnb14 := NB4.out
       have hnc14 := NB5.out
       have hnb15 := NB0.out
       have hnc15 := NB2.out
       obtain ⟨z47, z48, z49, z50, z52, f42, f43, f44, f45, f46⟩ := cz5_ BK0.out
       try go_wp2_with (first | (refine gcL_ 52 (some 62) Try.func52 #[.int .i64 a0, .int .i64 a10, .string a11, .slice A1 l4.length c4] ?_; (with_reducible refine (impl_ClashRow.calls _ _ _ _ _ _ _ _ _ _ ?side1 ?side2 A6.out).mono ?_); (case side1 => exact cU_ (Kd.C_below HR4.out HB.out)); (case side2 => exact HC4.out); rintro e w2 ⟨v3, rfl, ho0, hb⟩; refine ⟨_, rfl, ?_⟩; have HO0 := a_ (Kd.R_lower ho0 (below_size bel_)); replace BK0 := bb_ BK0.out hb; replace BK1 := bb_ BK1.out hb; replace BK2 := bb_ BK2.out hb; replace HB := s_ hb; clear hb; (try clear ho0)))
       replace HO0 := a_ (Kd.R_drew HO0.out)
       replace BK0 := a_ (blk_drew BK0.out)
       replace BK1 := a_ (blk_drew BK1.out)
       replace BK2 := a_ (blk_drew BK2.out)
       replace HB := a_ (below_drew1 HB.out)
       refine start_ (n := 16) (S := fun w' => hdc5_ w' gb1 (.int .i64 a0) (.int .u64 a2) (.int .u64 a3) (.int .u64 a4) (.int .u64 a5) (hd6_ w' gb2 (.int .i64 a1) (.int .u64 a6) (.int .u64 a7) (.int .u64 a8) (.int .u64 a9) (.slice A0 l3.length c0))) (ds := []) #[false, false, false, false, false, false, false, false, false, false, false, false, false, false, false, false] (by kernel_rfl) rfl rfl (hcc5_ BK0.out (hc6_ BK1.out)) (fun hHeld => ?_); refine with_tabW impl_ClashOfGrowth.tab7 impl_ClashOfGrowth.bits7 (fun HT HW_ => ?_)
       generalize w2.drew = w9 at HO0 BK0 BK1 BK2 HB hHeld ⊢
       refine qP_ 0 65 16 1 ?_
       refine qP_ 1 66 16 3 ?_
       refine qP_ 3 68 16 11 ?_
       refine qP_ 4 69 16 27 ?_
       refine qP_ 6 71 16 91 ?_
       refine qT_ 2 67 16 95 ?_
       refine qT_ 5 70 16 127 ?_
       refine qT_ 7 72 16 255 ?_
       refine oneP_ 8 (some 73) (b_ 16 511) HT (fun K hK => ?_)
       refine goN_ Try.func55 #[.int .i64 a0] ?_
       with_reducible refine (impl_PeaksCount.calls _ _ _ A7.out).mono ?_
       rintro e w' ⟨rfl, ⟨nd, rfl⟩⟩
       refine ⟨_, rfl, ?_⟩
       have q0 : (t0 : Int) ≤ ((l3.length : Int) : Int) := ofd_
       obtain ⟨i059, hi0, _, hsz59, _⟩ := info_parts info29
       have hroom59 : l3.length ≤ c0 := HC1_5.out
       have hC59 : Kd.C k29 _ A0 l3.length l3 := HR1_5.out
       have hcut59 := cut_to (P := Try.prog) 49 29 .i64 Try.underlying49 hi0 A0 l3.length c0 t0 (ofd_) q0 hroom59
       have hr59 := Kd.C_take (m := (t0 : Int).toNat) hC59 (by omega)
       have hy0 : y0.length = (t0 : Int).toNat := (by rw [Ny0.out, List.length_take]; omega)
       rw [← Ny0.out] at hr59
       rw [← hy0] at hcut59
       have HR949 := a_ hr59
       have HC949 := a_ (show y0.length ≤ c0 from by omega)
       clear hr59 hC59 hroom59 hi0 hsz59
       have KY59 := a_ hy0
       clear hy0
       replace q0 := eq_true q0
       refine hK.out _ _ (hcc5_ BK0.out (hc6_ BK1.out)) (fun hHeld => ?_)
       clear hK K
       refine normP_ (some 73) ?_
       refine qP_ 9 74 16 1023 ?_
       refine oneP_ 10 (some 75) (b_ 16 2047) HT (fun K hK => ?_)
       refine goN_ Try.func54 #[.int .i64 a0, .int .i64 a10, .slice A0 y0.length c0] ?_
       with_reducible refine (impl_peaksRow.calls _ _ _ _ _ _ _ _ ?side1 ?side2 A8.out).mono ?_
       (case side1 => exact cU_ (Kd.C_below HR949.out bel_))
       (case side2 => exact HC949.out)
       rintro e w10 ⟨v4, rfl, ho0, hb⟩
       refine ⟨_, rfl, ?_⟩
       have HO2 := a_ (Kd.R_lower (Kd.R_new' ho0 (Kd.R_lt (kdU_ HO0.out))) (below_size bel_))
       replace HO0 := a_ (Kd.R_elder' (kdU_ HO0.out) (Kd.R_base ho0) hb)
       replace BK0 := bb_ BK0.out hb
       replace BK1 := bb_ BK1.out hb
       replace BK2 := bb_ BK2.out hb
       replace HB := s_ hb
       (try clear hb); (try clear ho0)
       obtain ⟨Ao0, co0, eo0⟩ := Kd.R_slice HO0.out
       (first | subst eo0 | (injection eo0 with f1_ f2_ f3_; have f4_ := f1_.symm; have f5_ := f3_.symm; clear f1_ f2_ f3_; subst f4_; subst f5_))
       obtain ⟨Ao1, co1, eo1⟩ := Kd.R_slice HO2.out
       (first | subst eo1 | (injection eo1 with f1_ f2_ f3_; have f4_ := f1_.symm; have f5_ := f3_.symm; clear f1_ f2_ f3_; subst f4_; subst f5_))
       refine hK.out _ _ (hcc5_ BK0.out (hc6_ BK1.out)) (fun hHeld => ?_)
       clear hK K
       refine normP_ (some 75) ?_
       refine oneP_ 11 (some 76) (b_ 16 4095) HT (fun K hK => ?_)
       refine goN_ Try.func53 #[.slice Ao0 t2.length co0, .slice Ao1 t1.length co1] ?_
       with_reducible refine (impl_ClashFirst.calls _ _ _ _ _ _ _ _ _ _ _ ?side1 ?side2 ?side3 ?side4 A9.out).mono ?_
       (case side1 => exact cU_ (Kd.R_reads' HO0.out).2.2)
       (case side2 => exact (Kd.R_reads' HO0.out).2.1)
       (case side3 => exact cU_ (Kd.R_reads' HO2.out).2.2)
       (case side4 => exact (Kd.R_reads' HO2.out).2.1)
       rintro e w1 ⟨rfl, hb⟩
       refine ⟨_, rfl, ?_⟩
       replace HO0 := rb_ HO0.out hb
       replace HO2 := rb_ HO2.out hb
       replace BK0 := bb_ BK0.out hb
       replace BK1 := bb_ BK1.out hb
       replace BK2 := bb_ BK2.out hb
       replace HB := s_ hb
       (try clear hb)
       refine hK.out _ _ (hcc5_ BK0.out (hc6_ BK1.out)) (fun hHeld => ?_)
       clear hK K
       refine normP_ (some 76) ?_
       refine qP_ 12 77 16 8191 ?_
       refine qP_ 13 78 16 16383 ?_
       refine oneP_ 14 none (b_ 16 32767) HT (fun K hK => ?_)
       have hs0 : w1.cell? ⟨gb0, 0, none⟩ = some (.string (⟨#[]⟩ : ByteArray)) := (blk_cell BK2.out 0).trans rfl
       have hfs64 := blk_frozen BK2.out 0
       have hns64_0 := NB0.out
       have hns64_1 := NB1.out
       have hms64_0 := NB2.out
       have hms64_1 := NB3.out
       have hs1 : w1.cell? ⟨gb0, 1, none⟩ = some (.string (⟨#[]⟩ : ByteArray)) := (blk_cell BK2.out 1).trans rfl
       have hfs65 := blk_frozen BK2.out 1
       have hns65_0 := NB0.out
       have hns65_1 := NB1.out
       have hms65_0 := NB2.out
       have hms65_1 := NB3.out
       refine skip_ (w1 := ?_) (by rfl) rfl ?_ ?_
       rotate_left
       ·go_simp
        rfl
       refine hK.out _ _ ⟨(cf2_ NB0.out hHeld.1), (cf2_ NB0.out hHeld.2.1), (cf2_ NB0.out hHeld.2.2.1), (cf2_ NB0.out hHeld.2.2.2.1), (cf2_ NB0.out hHeld.2.2.2.2.1), (cf2_ NB1.out hHeld.2.2.2.2.2.1), (cf2_ NB1.out hHeld.2.2.2.2.2.2.1), (cf2_ NB1.out hHeld.2.2.2.2.2.2.2.1), (cf2_ NB1.out hHeld.2.2.2.2.2.2.2.2.1), (cf2_ NB1.out hHeld.2.2.2.2.2.2.2.2.2.1), (cf2_ NB1.out hHeld.2.2.2.2.2.2.2.2.2.2)⟩ (fun hHeld => ?_)
       clear hK K
       refine qP_ 15 11 16 65535 ?_
       refine done_ (done_of HT.out (by kernel_rfl)) ?_
       try go_wp2
       refine bodyPost_ret (results_ct rfl _ _ gb0 46 #[.string t7, .string t8] (0, 0) _ rfl (blkF_ BK2.out) Try.underlying46 rfl (by kernel_rfl)) rfl ?_
       exact ⟨rfl_, bel_⟩
end
section
mutual
def impl_ClashOfChain.j0 : Nat → List (S51) → Int → ByteArray → List (S29) → ByteArray → List (S29) → Bool → Int → Int → Int → Int → Int → Int → Int → Int → Int → Int → Option (ByteArray × ByteArray × Bool)
 | 0, _, _, _, _, _, _, _, _, _, _, _, _, _, _, _, _, _ => none
 | k + 1, x0, x11, x12, x13, x14, x16, x15, x1, x2, x3, x4, x5, x6, x7, x8, x9, x10 => if x15 = true then (some ((⟨#[]⟩ : ByteArray), (⟨#[]⟩ : ByteArray), false)) else (impl_ClashOfChain.l0 k x11 x12 x14 x16 x13 x0 (x0.length : Int) 0 x6 x7 x8 x9 x10 x1 x2 x3 x4 x5)
def impl_ClashOfChain.l0 : Nat → Int → ByteArray → ByteArray → List (S29) → List (S29) → List (S51) → Int → Int → Int → Int → Int → Int → Int → Int → Int → Int → Int → Int → Option (ByteArray × ByteArray × Bool)
 | 0, _, _, _, _, _, _, _, _, _, _, _, _, _, _, _, _, _, _ => none
 | k + 1, x2, x3, x7, x9, x4, x1, x8, x0, x5, x10, x11, x12, x13, x6, x14, x15, x16, x17 => if x0 < x8 then (if 0 ≤ x0 then (if x0 < (x1.length : Int) then ((impl_GrowthLift.f k x6 ((rd_T51 x1 x0).f0.f0) x2 x4 ((rd_T51 x1 x0).f1)).bind fun bt2 => ((impl_PathCheck.f k ((rd_T51 x1 x0).f0.f0) ((rd_T51 x1 x0).f0.f1.f0) ((rd_T51 x1 x0).f0.f1.f1) ((rd_T51 x1 x0).f0.f1.f2) ((rd_T51 x1 x0).f0.f1.f3) x2 x3 bt2.1).bind fun t0 => (if t0 = true then (impl_ClashOfChain.l0 k x2 x3 x7 x9 bt2.1 x1 x8 (wrap64 (x0 + 1)) x5 x10 x11 x12 x13 ((rd_T51 x1 x0).f0.f0) ((rd_T51 x1 x0).f0.f1.f0) ((rd_T51 x1 x0).f0.f1.f1) ((rd_T51 x1 x0).f0.f1.f2) ((rd_T51 x1 x0).f0.f1.f3)) else ((impl_ClashOfGrowth.f k x6 x14 x15 x16 x17 ((rd_T51 x1 x0).f0.f0) ((rd_T51 x1 x0).f0.f1.f0) ((rd_T51 x1 x0).f0.f1.f1) ((rd_T51 x1 x0).f0.f1.f2) ((rd_T51 x1 x0).f0.f1.f3) ((rd_T51 x1 x0).f1) x2 x3 x4).bind fun bt1 => (some (bt1.1, bt1.2.1, bt1.2.2)))))) else (none)) else (none)) else ((impl_ClashOfPaths.f k x5 x2 x3 x4 x7 x9).bind fun bt0 => (some (bt0.1, bt0.2.1, bt0.2.2)))
end
def impl_ClashOfChain.f (k : Nat) (a0 a1 a2 a3 a4 : Int) (l1 : List (S51)) (a5 : Int) (a6 : ByteArray) (l3 : List (S29)) (a7 : ByteArray) (l4 : List (S29)) : Option (ByteArray × ByteArray × Bool) := (impl_ChainEnd.f k a0 a1 a2 a3 a4 l1).bind fun bt0 => (if bt0.2.2.2.2.2 = true then (if a6.toList = a7.toList then (impl_ClashOfChain.j0 k l1 a5 a6 l3 a7 l4 true a0 a1 a2 a3 a4 bt0.1 bt0.2.1 bt0.2.2.1 bt0.2.2.2.1 bt0.2.2.2.2.1) else ((impl_PathCheck.f k a0 a1 a2 a3 a4 a5 a6 l3).bind fun t0 => (if t0 = true then ((impl_PathCheck.f k bt0.1 bt0.2.1 bt0.2.2.1 bt0.2.2.2.1 bt0.2.2.2.2.1 a5 a7 l4).bind fun t1 => (impl_ClashOfChain.j0 k l1 a5 a6 l3 a7 l4 (!t1) a0 a1 a2 a3 a4 bt0.1 bt0.2.1 bt0.2.2.1 bt0.2.2.2.1 bt0.2.2.2.2.1)) else (impl_ClashOfChain.j0 k l1 a5 a6 l3 a7 l4 true a0 a1 a2 a3 a4 bt0.1 bt0.2.1 bt0.2.2.1 bt0.2.2.2.1 bt0.2.2.2.2.1)))) else (impl_ClashOfChain.j0 k l1 a5 a6 l3 a7 l4 true a0 a1 a2 a3 a4 bt0.1 bt0.2.1 bt0.2.2.1 bt0.2.2.2.1 bt0.2.2.2.2.1))
theorem impl_ClashOfChain.calls (k : Nat) (a0 a1 a2 a3 a4 : Int) (A2 : Option Addr) (c16 : Nat) (l1 : List (S51)) (a5 : Int) (a6 : ByteArray) (P4_ : Nat → Prop) (A1 : Option Addr) (c4 : Nat) (l3 : List (S29)) (a7 : ByteArray) (A6 : Option Addr) (c6 : Nat) (l4 : List (S29)) (r0 r1 : ByteArray) (r2 : Bool) (w : World) (hr1 : Kd.C k51 w A2 l1.length l1) (hc1 : l1.length ≤ c16) (hs0 : Kd.V k29 29 w w.heap.size (fun k_ => P4_ k_) (.slice A1 l3.length c4) l3) (hr6 : Kd.C k29 w A6 l4.length l4) (hc6 : l4.length ≤ c6) (h : impl_ClashOfChain.f k a0 a1 a2 a3 a4 l1 a5 a6 l3 a7 l4 = some (r0, r1, r2)) :
  Calls Try.prog 27 #[.agg #[.int .i64 a0, .int .u64 a1, .int .u64 a2, .int .u64 a3, .int .u64 a4], .slice A2 l1.length c16, .int .i64 a5, .string a6, .slice A1 l3.length c4, .string a7, .slice A6 l4.length c6] w fun e w' => e = .returned (.tuple #[.agg #[.string r0, .string r1], .bool r2]) ∧ Below w.heap.size w w' := by
 have hu31 := Try.underlying31
 have hu46 := Try.underlying46
 have hu51 := Try.underlying51
 have HR1 := a_ hr1
 have HC1 := a_ hc1
 clear hr1 hc1
 have HO0 := a_ (show Kd.V k29 29 w w.heap.size (fun k_ => (P4_ k_ ∨ w.heap.size ≤ k_)) (.slice A1 l3.length c4) l3 from Kd.V_mono hs0 (fun k_ hk => .inl hk))
 have HR6 := a_ hr6
 have HC6 := a_ hc6
 clear hr6 hc6
 have HB := rB_ w
 have H := h
 unfold impl_ClashOfChain.f at H
 clear h
 obtain ⟨⟨t0, t1, t2, t3, t4, t5⟩, A9, H⟩ := bnd_ H
 dsimp only at H
 have HC9 := a_ H
 clear H
 go_enter Try.func27, Try.ntmps27
 go_upto_region 2 with (first | ((with_reducible refine gate_dst (N := 7) rfl ?_); refine boxE_ (cs := #[.int .i64 a0, .int .u64 a1, .int .u64 a2, .int .u64 a3, .int .u64 a4]) (t := 31) ?_; intro gb4 hg w1 hbox hb; replace HO0 := a_ (Kd.V_below (Kd.V_elderB (uV_ HO0.out) gb4 (Nat.le_of_eq hg.symm)) hb); have BK0 := a_ (hbox); have GW1 := sizeB_ hg; replace HB := s_ hb; clear hb hbox hg) | ((with_reducible refine gate_dst (N := 14) rfl ?_); refine boxE_ (cs := #[.string (⟨#[]⟩ : ByteArray), .string (⟨#[]⟩ : ByteArray)]) (t := 46) ?_; intro gb3 hg w2 hbox hb; replace HO0 := a_ (Kd.V_below (Kd.V_elderB (uV_ HO0.out) gb3 (Nat.le_of_eq hg.symm)) hb); have BK1 := a_ (hbox); have GW2 := sizeB_ hg; replace HB := s_ hb; obtain ⟨NB0, NB1⟩ := ne2_ BK0.out hg; replace BK0 := bb_ BK0.out hb; clear hb hbox hg; have hnb1 := NB0.out; have hnc1 := NB1.out; obtain ⟨z0, z1, z2, z3, z4, f0, f1, f2, f3, f4⟩ := cz5_ BK0.out) | (refine gcB_ 14 27 Try.func14 (impl_ChainEnd.calls _ _ _ _ _ _ _ _ _ _ _ _ _ _ _ _ ?side1 ?side2 A9.out) ?_; (case side1 => exact cU_ (Kd.C_below HR1.out HB.out)); (case side2 => exact HC1.out); intro w3 hb; replace HO0 := a_ (Kd.V_below (uV_ HO0.out) hb); replace BK0 := bb_ BK0.out hb; replace BK1 := bb_ BK1.out hb; replace HB := s_ hb; clear hb) | ((with_reducible refine gate_dst (N := 16) rfl ?_); refine boxE_ (cs := #[.int .i64 0, .int .u64 0, .int .u64 0, .int .u64 0, .int .u64 0]) (t := 31) ?_; intro gb0 hg w4 hbox hb; replace HO0 := a_ (Kd.V_below (Kd.V_elderB (uV_ HO0.out) gb0 (Nat.le_of_eq hg.symm)) hb); have BK2 := a_ (hbox); have GW3 := sizeB_ hg; replace HB := s_ hb; obtain ⟨NB2, NB4⟩ := ne2_ BK0.out hg; replace BK0 := bb_ BK0.out hb; obtain ⟨NB3, NB5⟩ := ne2_ BK1.out hg; replace BK1 := bb_ BK1.out hb; clear hb hbox hg; have hnb2 := NB4.out; have hnc2 := NB2.out; have hnb3 := NB5.out; have hnc3 := NB3.out; obtain ⟨z5, z6, z7, z8, z9, f5, f6, f7, f8, f9⟩ := cz5_ BK2.out))
 (try simp only [Act.put, List.setIfInBounds_toArray, List.set_cons_zero, List.set_cons_succ])
 go_cut [52] (fun v2 wc => ∃ (kq : Nat) (x3 : Bool), v2 = .bool x3 ∧ Aside0 (impl_ClashOfChain.j0 kq l1 a5 a6 l3 a7 l4 x3 a0 a1 a2 a3 a4 t0 t1 t2 t3 t4 = some (r0, r1, r2)) ∧ Aside0 (kq ≤ k) ∧ Aside0 (Kd.V k29 29 wc w.heap.size (fun k_ => (P4_ k_ ∨ w.heap.size ≤ k_) ∧ k_ ≠ gb4 ∧ k_ ≠ gb3 ∧ k_ ≠ gb0) (.slice A1 l3.length c4) l3) ∧ Aside0 (wc.heap[gb4]? = some (.cells #[.int .i64 a0, .int .u64 a1, .int .u64 a2, .int .u64 a3, .int .u64 a4] 31 (0, 0))) ∧ Aside0 (wc.heap[gb3]? = some (.cells #[.string (⟨#[]⟩ : ByteArray), .string (⟨#[]⟩ : ByteArray)] 46 (0, 0))) ∧ Aside0 (wc.heap[gb0]? = some (.cells #[.int .i64 t0, .int .u64 t1, .int .u64 t2, .int .u64 t3, .int .u64 t4] 31 (0, 0))) ∧ Aside0 (Below w.heap.size w wc))
 case first =>
  have H := HC9.out
  clear HC9
  by_cases c12 : t5 = true
  ·subst c12
   rw [if_pos rfl] at H
   by_cases c1 : a6.toList = a7.toList
   ·rw [if_pos c1] at H
    have c11 := beq_iff_eq.mpr c1
    have c18 := bne_eq_false_iff_eq.mpr c1
    clear c1
    (first | rw [c11] | (simp only [i64_w, i32_w]; rw [c11]) | skip)
    have H' := a_ H
    clear H
    go_wp2
    go_meet
    case rel => exact ⟨_, (true), rl_, H', ⟨by first | omega | exact Nat.le_refl _⟩, ⟨uV_ (Kd.V_mono (Kd.V_far (p := ⟨gb0, 4, none⟩) (Kd.V_far (p := ⟨gb0, 3, none⟩) (Kd.V_far (p := ⟨gb0, 2, none⟩) (Kd.V_far (p := ⟨gb0, 1, none⟩) (Kd.V_far (p := ⟨gb0, 0, none⟩) (Kd.V_mono HO0.out (fun k_ hk => (⟨hk, hk.2⟩ : _ ∧ k_ ≠ gb0))) (fun _ hk => hk.2) (.int .i64 t0)) (fun _ hk => hk.2) (.int .u64 t1)) (fun _ hk => hk.2) (.int .u64 t2)) (fun _ hk => hk.2) (.int .u64 t3)) (fun _ hk => hk.2) (.int .u64 t4)) (fun _ hk => ⟨hk.1.1.1.1, ⟨hk.1.1.1.2, ⟨hk.1.1.2, hk.1.2⟩⟩⟩))⟩, ⟨blkU_ BK0.out⟩, ⟨blkU_ BK1.out⟩, ⟨blkF_ BK2.out⟩, ⟨bel_⟩⟩
   ·rw [if_neg c1] at H
    have c11 := beq_eq_false_iff_ne.mpr c1
    have c18 := bne_iff_ne.mpr c1
    (first | rw [c11] | (simp only [i64_w, i32_w]; rw [c11]) | skip)
    obtain ⟨t6, A3, H⟩ := bnd_ H
    by_cases c13 : t6 = true
    ·subst c13
     rw [if_pos rfl] at H
     obtain ⟨t7, A7, H⟩ := bnd_ H
     have H' := a_ H
     clear H
     have hnb4 := NB0.out
     have hnc4 := NB1.out
     have hnb5 := NB2.out
     have hnc5 := NB4.out
     obtain ⟨z10, z11, z12, z13, z14, f10, f11, f12, f13, f14⟩ := cz5_ BK0.out
     go_wp2_with (first | (go_at_call 51; (with_reducible refine (impl_PathCheck.calls _ _ _ _ _ _ _ _ _ _ _ _ _ ?side1 ?side2 A3.out).mono ?_); (case side1 => refine (Kd.V_reads' (e := 29) (base := w.heap.size) (ok := fun k_ => ((((P4_ k_ ∨ w.heap.size ≤ k_) ∧ k_ ≠ gb4) ∧ k_ ≠ gb3) ∧ k_ ≠ gb0)) (n := l3.length) (c := c4) ?_).2.2; exact (uV_ (Kd.V_mono (Kd.V_far (p := ⟨gb0, 4, none⟩) (Kd.V_far (p := ⟨gb0, 3, none⟩) (Kd.V_far (p := ⟨gb0, 2, none⟩) (Kd.V_far (p := ⟨gb0, 1, none⟩) (Kd.V_far (p := ⟨gb0, 0, none⟩) (Kd.V_mono HO0.out (fun k_ hk => (⟨hk, hk.2⟩ : _ ∧ k_ ≠ gb0))) (fun _ hk => hk.2) (.int .i64 t0)) (fun _ hk => hk.2) (.int .u64 t1)) (fun _ hk => hk.2) (.int .u64 t2)) (fun _ hk => hk.2) (.int .u64 t3)) (fun _ hk => hk.2) (.int .u64 t4)) (fun _ h_ => h_.1)))); (case side2 => exact (Kd.V_reads' HO0.out).2.1); rintro e w5 ⟨rfl, hb⟩; replace HO0 := a_ (Kd.V_below (uV_ (Kd.V_mono (Kd.V_far (p := ⟨gb0, 4, none⟩) (Kd.V_far (p := ⟨gb0, 3, none⟩) (Kd.V_far (p := ⟨gb0, 2, none⟩) (Kd.V_far (p := ⟨gb0, 1, none⟩) (Kd.V_far (p := ⟨gb0, 0, none⟩) (Kd.V_mono HO0.out (fun k_ hk => (⟨hk, hk.2⟩ : _ ∧ k_ ≠ gb0))) (fun _ hk => hk.2) (.int .i64 t0)) (fun _ hk => hk.2) (.int .u64 t1)) (fun _ hk => hk.2) (.int .u64 t2)) (fun _ hk => hk.2) (.int .u64 t3)) (fun _ hk => hk.2) (.int .u64 t4)) (fun _ h_ => h_.1))) hb); replace BK0 := bb_ BK0.out hb; replace BK1 := bb_ BK1.out hb; replace BK2 := blkPB_ (cs := #[.int .i64 t0, .int .u64 t1, .int .u64 t2, .int .u64 t3, .int .u64 t4]) BK2.out hb; replace HB := s_ hb; clear hb; have hnb6 := NB5.out; have hnc6 := NB3.out; obtain ⟨z15, z16, z17, z18, z19, f15, f16, f17, f18, f19⟩ := cz5_ BK2.out) | (go_at_call 51; (with_reducible refine (impl_PathCheck.calls _ _ _ _ _ _ _ _ _ _ _ _ _ ?side1 ?side2 A7.out).mono ?_); (case side1 => exact cU_ (Kd.C_below HR6.out HB.out)); (case side2 => exact HC6.out); rintro e w6 ⟨rfl, hb⟩; replace HO0 := a_ (Kd.V_below (uV_ HO0.out) hb); replace BK0 := bb_ BK0.out hb; replace BK1 := bb_ BK1.out hb; replace BK2 := bb_ BK2.out hb; replace HB := s_ hb; clear hb))
     go_meet
     case rel => exact ⟨_, (!t7), rl_, H', ⟨by first | omega | exact Nat.le_refl _⟩, ⟨uV_ (Kd.V_mono HO0.out (fun _ hk => ⟨hk.1.1.1, ⟨hk.1.1.2, ⟨hk.1.2, hk.2⟩⟩⟩))⟩, ⟨blkU_ BK0.out⟩, ⟨blkU_ BK1.out⟩, ⟨blkU_ BK2.out⟩, ⟨bel_⟩⟩
    ·replace c13 := Bool.eq_false_iff.mpr c13
     subst c13
     rw [if_neg (show ¬ (false = true) by decide)] at H
     have H' := a_ H
     clear H
     have hnb7 := NB0.out
     have hnc7 := NB1.out
     have hnb8 := NB2.out
     have hnc8 := NB4.out
     obtain ⟨z20, z21, z22, z23, z25, f20, f21, f22, f23, f24⟩ := cz5_ BK0.out
     go_wp2_with (first | (go_at_call 51; (with_reducible refine (impl_PathCheck.calls _ _ _ _ _ _ _ _ _ _ _ _ _ ?side1 ?side2 A3.out).mono ?_); (case side1 => refine (Kd.V_reads' (e := 29) (base := w.heap.size) (ok := fun k_ => ((((P4_ k_ ∨ w.heap.size ≤ k_) ∧ k_ ≠ gb4) ∧ k_ ≠ gb3) ∧ k_ ≠ gb0)) (n := l3.length) (c := c4) ?_).2.2; exact (uV_ (Kd.V_mono (Kd.V_far (p := ⟨gb0, 4, none⟩) (Kd.V_far (p := ⟨gb0, 3, none⟩) (Kd.V_far (p := ⟨gb0, 2, none⟩) (Kd.V_far (p := ⟨gb0, 1, none⟩) (Kd.V_far (p := ⟨gb0, 0, none⟩) (Kd.V_mono HO0.out (fun k_ hk => (⟨hk, hk.2⟩ : _ ∧ k_ ≠ gb0))) (fun _ hk => hk.2) (.int .i64 t0)) (fun _ hk => hk.2) (.int .u64 t1)) (fun _ hk => hk.2) (.int .u64 t2)) (fun _ hk => hk.2) (.int .u64 t3)) (fun _ hk => hk.2) (.int .u64 t4)) (fun _ h_ => h_.1)))); (case side2 => exact (Kd.V_reads' HO0.out).2.1); rintro e w7 ⟨rfl, hb⟩; replace HO0 := a_ (Kd.V_below (uV_ (Kd.V_mono (Kd.V_far (p := ⟨gb0, 4, none⟩) (Kd.V_far (p := ⟨gb0, 3, none⟩) (Kd.V_far (p := ⟨gb0, 2, none⟩) (Kd.V_far (p := ⟨gb0, 1, none⟩) (Kd.V_far (p := ⟨gb0, 0, none⟩) (Kd.V_mono HO0.out (fun k_ hk => (⟨hk, hk.2⟩ : _ ∧ k_ ≠ gb0))) (fun _ hk => hk.2) (.int .i64 t0)) (fun _ hk => hk.2) (.int .u64 t1)) (fun _ hk => hk.2) (.int .u64 t2)) (fun _ hk => hk.2) (.int .u64 t3)) (fun _ hk => hk.2) (.int .u64 t4)) (fun _ h_ => h_.1))) hb); replace BK0 := bb_ BK0.out hb; replace BK1 := bb_ BK1.out hb; replace BK2 := blkPB_ (cs := #[.int .i64 t0, .int .u64 t1, .int .u64 t2, .int .u64 t3, .int .u64 t4]) BK2.out hb; replace HB := s_ hb; clear hb))
     go_meet
     case rel => exact ⟨_, (true), rl_, H', ⟨by first | omega | exact Nat.le_refl _⟩, ⟨uV_ (Kd.V_mono HO0.out (fun _ hk => ⟨hk.1.1.1, ⟨hk.1.1.2, ⟨hk.1.2, hk.2⟩⟩⟩))⟩, ⟨blkU_ BK0.out⟩, ⟨blkU_ BK1.out⟩, ⟨blkU_ BK2.out⟩, ⟨bel_⟩⟩
  ·replace c12 := Bool.eq_false_iff.mpr c12
   subst c12
   rw [if_neg (show ¬ (false = true) by decide)] at H
   have H' := a_ H
   clear H
   go_wp2
   go_meet
   case rel => exact ⟨_, (true), rl_, H', ⟨by first | omega | exact Nat.le_refl _⟩, ⟨uV_ (Kd.V_mono (Kd.V_far (p := ⟨gb0, 4, none⟩) (Kd.V_far (p := ⟨gb0, 3, none⟩) (Kd.V_far (p := ⟨gb0, 2, none⟩) (Kd.V_far (p := ⟨gb0, 1, none⟩) (Kd.V_far (p := ⟨gb0, 0, none⟩) (Kd.V_mono HO0.out (fun k_ hk => (⟨hk, hk.2⟩ : _ ∧ k_ ≠ gb0))) (fun _ hk => hk.2) (.int .i64 t0)) (fun _ hk => hk.2) (.int .u64 t1)) (fun _ hk => hk.2) (.int .u64 t2)) (fun _ hk => hk.2) (.int .u64 t3)) (fun _ hk => hk.2) (.int .u64 t4)) (fun _ hk => ⟨hk.1.1.1.1, ⟨hk.1.1.1.2, ⟨hk.1.1.2, hk.1.2⟩⟩⟩))⟩, ⟨blkU_ BK0.out⟩, ⟨blkU_ BK1.out⟩, ⟨blkF_ BK2.out⟩, ⟨bel_⟩⟩
 case rest =>
  clear HC9
  (try clear c16); (try clear c4); (try clear c6); (try clear c12); (try clear c1); (try clear c11); (try clear c18); (try clear c13); (try clear z0 z1 z2 z3 z4); (try clear z5 z6 z7 z8 z9); (try clear z10 z11 z12 z13 z14); (try clear z15 z16 z17 z18 z19); (try clear z20 z21 z22 z23 z25); (try clear f0 f1 f2 f3 f4); (try clear f5 f6 f7 f8 f9); (try clear f10 f11 f12 f13 f14); (try clear f15 f16 f17 f18 f19); (try clear f20 f21 f22 f23 f24)
  obtain ⟨kq, x3, rfl, HA, HJ8, HO_1, BK0, BK1, BK2, HB⟩ := hcut
  cases kq with
  | zero => exact absurd HA.out (by simp [impl_ClashOfChain.j0])
  | succ kj0 =>
   have H := HA.out
   clear HA
   simp only [impl_ClashOfChain.j0] at H
   by_cases c15 : x3 = true
   ·subst c15
    rw [if_pos rfl] at H
    simp only [Option.some.injEq, Prod.mk.injEq] at H
    obtain ⟨rfl, rfl, rfl⟩ := H
    have hnb9 := NB1.out
    have hnc9 := NB0.out
    have hnb10 := NB3.out
    have hnc10 := NB5.out
    obtain ⟨z27, z28, f25, f26⟩ := cz2_ BK1.out
    go_wp2
    refine bodyPost_ret (results_ct rfl _ _ gb3 46 #[.string (⟨#[]⟩ : ByteArray), .string (⟨#[]⟩ : ByteArray)] (0, 0) _ rfl (blkF_ BK1.out) Try.underlying46 rfl (by kernel_rfl)) rfl ?_
    exact ⟨rfl_, bel_⟩
   ·replace c15 := Bool.eq_false_iff.mpr c15
    subst c15
    rw [if_neg (show ¬ (false = true) by decide)] at H
    have H' := a_ H
    clear H
    have hnb11 := NB0.out
    have hnc11 := NB1.out
    have hnb12 := NB2.out
    have hnc12 := NB4.out
    obtain ⟨z30, z32, z33, z34, z35, f27, f28, f29, f30, f31⟩ := cz5_ BK0.out
    go_wp2_with (first | (refine bx_ 18 #[.int .i64 0, .int .u64 0, .int .u64 0, .int .u64 0, .int .u64 0] 31 ?_; intro gb2 w9 hg hb BK3 GW4; replace HO_1 := a_ (Kd.V_below (Kd.V_elderB (uV_ HO_1.out) gb2 (Nat.le_of_eq hg.symm)) hb); replace HB := s_ hb; obtain ⟨NB10, NB14⟩ := ne2_ BK0.out hg; replace BK0 := bb_ BK0.out hb; obtain ⟨NB6, NB8⟩ := ne2_ BK1.out hg; replace BK1 := bb_ BK1.out hb; obtain ⟨NB7, NB9⟩ := ne2_ BK2.out hg; replace BK2 := bb_ BK2.out hb; clear hb hg; have hnb13 := NB14.out; have hnc13 := NB10.out; have hnb14 := NB8.out; have hnc14 := NB6.out; have hnb15 := NB9.out; have hnc15 := NB7.out; obtain ⟨z36, z37, z38, z39, z40, f32, f33, f34, f35, f36⟩ := cz5_ BK3.out))
    go_loopg [19, 58] kj0 (fun kq v1 v3 w' => ∃ (x1 : List (S29)) (x0 : Int) (x4 x5 : ByteArray) (x2 x6 x7 x8 x9 : Int), v3 = .int .i64 x0 ∧ Aside0 (impl_ClashOfChain.l0 kq a5 a6 a7 l4 x1 l1 (l1.length : Int) x0 t0 t1 t2 t3 t4 x2 x6 x7 x8 x9 = some (r0, r1, r2)) ∧ Aside0 (kq ≤ kj0) ∧ Aside0 (Kd.V k29 29 w' w.heap.size (fun k_ => (P4_ k_ ∨ w.heap.size ≤ k_) ∧ k_ ≠ gb4 ∧ k_ ≠ gb3 ∧ k_ ≠ gb0 ∧ k_ ≠ gb2) v1 x1) ∧ Aside0 (w'.heap[gb4]? = some (.cells #[.int .i64 a0, .int .u64 a1, .int .u64 a2, .int .u64 a3, .int .u64 a4] 31 (0, 0))) ∧ Aside0 (w'.heap[gb3]? = some (.cells #[.string x4, .string x5] 46 (0, 0))) ∧ Aside0 (w'.heap[gb0]? = some (.cells #[.int .i64 t0, .int .u64 t1, .int .u64 t2, .int .u64 t3, .int .u64 t4] 31 (0, 0))) ∧ Aside0 (w'.heap[gb2]? = some (.cells #[.int .i64 x2, .int .u64 x6, .int .u64 x7, .int .u64 x8, .int .u64 x9] 31 (0, 0))) ∧ Aside0 (Below w.heap.size w w'))
    case atStart => exact ⟨(l3), (0), ((⟨#[]⟩ : ByteArray)), ((⟨#[]⟩ : ByteArray)), (a0), (a1), (a2), (a3), (a4), rl_, H', ⟨Nat.le_refl _⟩, ⟨uV_ (Kd.V_mono (Kd.V_far (p := ⟨gb2, 4, none⟩) (Kd.V_far (p := ⟨gb2, 3, none⟩) (Kd.V_far (p := ⟨gb2, 2, none⟩) (Kd.V_far (p := ⟨gb2, 1, none⟩) (Kd.V_far (p := ⟨gb2, 0, none⟩) (Kd.V_mono HO_1.out (fun k_ hk => (⟨hk, hk.2⟩ : _ ∧ k_ ≠ gb2))) (fun _ hk => hk.2) (.int .i64 a0)) (fun _ hk => hk.2) (.int .u64 a1)) (fun _ hk => hk.2) (.int .u64 a2)) (fun _ hk => hk.2) (.int .u64 a3)) (fun _ hk => hk.2) (.int .u64 a4)) (fun _ hk => ⟨hk.1.1.1, ⟨hk.1.1.2.1, ⟨hk.1.1.2.2.1, ⟨hk.1.1.2.2.2, hk.1.2⟩⟩⟩⟩))⟩, ⟨blkU_ BK0.out⟩, ⟨blkU_ BK1.out⟩, ⟨blkU_ BK2.out⟩, ⟨blkF_ BK3.out⟩, ⟨bel_⟩⟩
    case round =>
     clear H'
     (try clear c16); (try clear c4); (try clear c6); (try clear c12); (try clear c1); (try clear c11); (try clear c18); (try clear c13); (try clear c15); (try clear z0 z1 z2 z3 z4); (try clear z5 z6 z7 z8 z9); (try clear z10 z11 z12 z13 z14); (try clear z15 z16 z17 z18 z19); (try clear z20 z21 z22 z23 z25); (try clear z27 z28); (try clear z30 z32 z33 z34 z35); (try clear z36 z37 z38 z39 z40); (try clear f0 f1 f2 f3 f4); (try clear f5 f6 f7 f8 f9); (try clear f10 f11 f12 f13 f14); (try clear f15 f16 f17 f18 f19); (try clear f20 f21 f22 f23 f24); (try clear f25 f26); (try clear f27 f28 f29 f30 f31); (try clear f32 f33 f34 f35 f36)
     obtain ⟨x1, x0, x4, x5, x2, x6, x7, x8, x9, rfl, HA, HK2, HO_0, BK0, BK1, BK2, BK3, HB⟩ := hrel
     cases gk with
     | zero => exact absurd HA.out (by simp [impl_ClashOfChain.l0])
     | succ k2 =>
      have H := HA.out
      clear HA
      simp only [impl_ClashOfChain.l0] at H
      by_cases c14 : x0 < (l1.length : Int)
      ·rw [if_pos c14] at H
       have c19 := decide_eq_true c14
       clear c14
       obtain ⟨c20, H⟩ := ifd_ H
       obtain ⟨c21, H⟩ := ifd_ H
       obtain ⟨⟨t10, t15⟩, A4, H⟩ := bnd_ H
       dsimp only at H
       obtain ⟨t11, A5, H⟩ := bnd_ H
       by_cases c17 : t11 = true
       ·subst c17
        rw [if_pos rfl] at H
        have H' := a_ H
        clear H
        have p0 : 0 ≤ (x0 : Int) := ofd_
        have q0 : x0 < (l1.length : Int) := ofd_
        obtain ⟨ad0, A0, c0, e0, hx0, hx1, hx2, hx3, hx4, hx5, hl0, hi0⟩ := at_T51 HR1.out x0 p0 q0
        cases e0
        replace hx0 := pc_ HB.out hx0
        replace hx1 := pc_ HB.out hx1
        replace hx2 := pc_ HB.out hx2
        replace hx3 := pc_ HB.out hx3
        replace hx4 := pc_ HB.out hx4
        replace hx5 := pc_ HB.out hx5
        have HR1106_5 := a_ hi0
        have HC1106_5 := a_ hl0
        clear hi0 hl0
        replace p0 := eq_true p0
        replace q0 := eq_true q0
        go_wp2_with (first | (refine bx_ 21 #[.int .i64 0, .int .u64 0, .int .u64 0, .int .u64 0, .int .u64 0, .slice none 0 0] 51 ?_; intro gb1 w10 hg hb BK4 GW0; replace HO_0 := a_ (Kd.V_below (Kd.V_elderB (uV_ HO_0.out) gb1 (Nat.le_of_eq hg.symm)) hb); replace HB := s_ hb; obtain ⟨NB11, NB16⟩ := ne2_ BK0.out hg; replace BK0 := bb_ BK0.out hb; obtain ⟨NB12, NB17⟩ := ne2_ BK1.out hg; replace BK1 := bb_ BK1.out hb; obtain ⟨NB13, NB18⟩ := ne2_ BK2.out hg; replace BK2 := bb_ BK2.out hb; obtain ⟨NB15, NB19⟩ := ne2_ BK3.out hg; replace BK3 := bb_ BK3.out hb; clear hb hg; have hnb16 := NB16.out; have hnc16 := NB11.out; have hnb17 := NB17.out; have hnc17 := NB12.out; have hnb18 := NB18.out; have hnc18 := NB13.out; have hnb19 := NB19.out; have hnc19 := NB15.out; obtain ⟨z44, z45, z46, z47, z48, z49, f39, f40, f41, f42, f43, f44⟩ := cz6_ BK4.out; have hnb20 := NB14.out; have hnc20 := NB10.out; have hnb21 := NB8.out; have hnc21 := NB6.out; have hnb22 := NB9.out; have hnc22 := NB7.out; obtain ⟨z50, z52, z53, z54, z55, f45, f46, f47, f48, f49⟩ := cz5_ BK3.out; obtain ⟨Ao0, co0, eo0⟩ := Kd.V_slice HO_0.out; subst eo0) | (refine gcL_ 38 (some 72) Try.func38 #[.int .i64 x2, .int .i64 ((rd_T51 l1 x0).f0.f0), .int .i64 a5, .slice Ao0 x1.length co0, .slice A0 ((rd_T51 l1 x0).f1).length c0] ?_; (with_reducible refine (impl_GrowthLift.calls _ _ _ _ _ _ _ _ _ _ _ _ _ ?side1 ?side2 ?side3 ?side4 A4.out).mono ?_); (case side1 => refine (Kd.V_reads' (e := 29) (base := w.heap.size) (ok := fun k_ => (((P4_ k_ ∨ w.heap.size ≤ k_) ∧ (k_ ≠ gb4 ∧ (k_ ≠ gb3 ∧ (k_ ≠ gb0 ∧ k_ ≠ gb2)))) ∧ k_ ≠ gb1)) (n := x1.length) (c := co0) ?_).2.2; exact (uV_ (Kd.V_mono (Kd.V_far (p := ⟨gb1, 5, none⟩) (Kd.V_far (p := ⟨gb1, 4, none⟩) (Kd.V_far (p := ⟨gb1, 3, none⟩) (Kd.V_far (p := ⟨gb1, 2, none⟩) (Kd.V_far (p := ⟨gb1, 1, none⟩) (Kd.V_far (p := ⟨gb1, 0, none⟩) (Kd.V_mono HO_0.out (fun k_ hk => (⟨hk, hk.2⟩ : _ ∧ k_ ≠ gb1))) (fun _ hk => hk.2) (.int .i64 ((rd_T51 l1 x0).f0.f0))) (fun _ hk => hk.2) (.int .u64 ((rd_T51 l1 x0).f0.f1.f0))) (fun _ hk => hk.2) (.int .u64 ((rd_T51 l1 x0).f0.f1.f1))) (fun _ hk => hk.2) (.int .u64 ((rd_T51 l1 x0).f0.f1.f2))) (fun _ hk => hk.2) (.int .u64 ((rd_T51 l1 x0).f0.f1.f3))) (fun _ hk => hk.2) (.slice A0 ((rd_T51 l1 x0).f1).length c0)) (fun _ h_ => h_.1)))); (case side2 => exact (Kd.V_reads' HO_0.out).2.1); (case side3 => exact Kd.C_below HR1106_5.out bel_); (case side4 => exact HC1106_5.out); rintro e w64 ⟨v0, rfl, ho0, hb⟩; refine ⟨_, rfl, ?_⟩; replace HO_0 := a_ (Kd.V_elder' (uV_ (Kd.V_mono (Kd.V_far (p := ⟨gb1, 5, none⟩) (Kd.V_far (p := ⟨gb1, 4, none⟩) (Kd.V_far (p := ⟨gb1, 3, none⟩) (Kd.V_far (p := ⟨gb1, 2, none⟩) (Kd.V_far (p := ⟨gb1, 1, none⟩) (Kd.V_far (p := ⟨gb1, 0, none⟩) (Kd.V_mono HO_0.out (fun k_ hk => (⟨hk, hk.2⟩ : _ ∧ k_ ≠ gb1))) (fun _ hk => hk.2) (.int .i64 ((rd_T51 l1 x0).f0.f0))) (fun _ hk => hk.2) (.int .u64 ((rd_T51 l1 x0).f0.f1.f0))) (fun _ hk => hk.2) (.int .u64 ((rd_T51 l1 x0).f0.f1.f1))) (fun _ hk => hk.2) (.int .u64 ((rd_T51 l1 x0).f0.f1.f2))) (fun _ hk => hk.2) (.int .u64 ((rd_T51 l1 x0).f0.f1.f3))) (fun _ hk => hk.2) (.slice A0 ((rd_T51 l1 x0).f1).length c0)) (fun _ h_ => h_.1))) (Kd.R_base ho0) hb); have HO1 := a_ (Kd.R_lower (Kd.R_newM (M := fun k_ => (w.heap.size ≤ k_)) ho0 (below_size bel_) (fun k_ h_ => h_)) (below_size bel_)); replace BK0 := bb_ BK0.out hb; replace BK1 := bb_ BK1.out hb; replace BK2 := bb_ BK2.out hb; replace BK3 := bb_ BK3.out hb; replace BK4 := blkPB_ (cs := #[.int .i64 ((rd_T51 l1 x0).f0.f0), .int .u64 ((rd_T51 l1 x0).f0.f1.f0), .int .u64 ((rd_T51 l1 x0).f0.f1.f1), .int .u64 ((rd_T51 l1 x0).f0.f1.f2), .int .u64 ((rd_T51 l1 x0).f0.f1.f3), .slice A0 ((rd_T51 l1 x0).f1).length c0]) BK4.out hb; replace HB := s_ hb; clear hb; (try clear ho0); obtain ⟨z56, z57, z58, z59, z60, z61, f50, f51, f52, f53, f54, f55⟩ := cz6_ BK4.out; obtain ⟨Ao2, co2, eo1⟩ := Kd.R_slice HO1.out; subst eo1) | (refine gcB_ 51 80 Try.func51 (impl_PathCheck.calls _ _ _ _ _ _ _ _ _ _ _ _ _ ?side1 ?side2 A5.out) ?_; (case side1 => exact cU_ (Kd.R_reads' HO1.out).2.2); (case side2 => exact (Kd.R_reads' HO1.out).2.1); intro w11 hb; replace HO_0 := a_ (Kd.V_below (uV_ HO_0.out) hb); replace HO1 := rb_ HO1.out hb; replace BK0 := bb_ BK0.out hb; replace BK1 := bb_ BK1.out hb; replace BK2 := bb_ BK2.out hb; replace BK3 := bb_ BK3.out hb; replace BK4 := bb_ BK4.out hb; replace HB := s_ hb; clear hb; obtain ⟨z62, z63, z64, z65, z66, z67, f56, f57, f58, f59, f60, f61⟩ := cz6_ BK4.out; obtain ⟨z68, z69, z70, z71, z72, f62, f63, f64, f65, f66⟩ := cz5_ BK3.out))
        go_roundg k2
        case measure => have := HJ8.out; have := HK2.out; omega
        case rel => exact ⟨(t10), (wrap64 (x0 + 1)), (x4), (x5), ((rd_T51 l1 x0).f0.f0), ((rd_T51 l1 x0).f0.f1.f0), ((rd_T51 l1 x0).f0.f1.f1), ((rd_T51 l1 x0).f0.f1.f2), ((rd_T51 l1 x0).f0.f1.f3), rl_, H', ⟨by have := HJ8.out; have := HK2.out; omega⟩, ⟨Kd.V_mono (ok := fun k_ => w.heap.size ≤ k_ ∧ k_ ≠ gb4 ∧ k_ ≠ gb3 ∧ k_ ≠ gb0 ∧ k_ ≠ gb2) (Kd.R_V (uR_ (Kd.R_mono (Kd.R_far (p := ⟨gb2, 4, none⟩) (Kd.R_far (p := ⟨gb2, 3, none⟩) (Kd.R_far (p := ⟨gb2, 2, none⟩) (Kd.R_far (p := ⟨gb2, 1, none⟩) (Kd.R_far (p := ⟨gb2, 0, none⟩) (Kd.R_types (Kd.R_types (Kd.R_types (Kd.R_types (Kd.R_types HO1.out BK0.out (by decide)) BK1.out (by decide)) BK2.out (by decide)) BK3.out (by decide)) BK3.out (by decide)) (fun _ hk => hk.2) (.int .i64 ((rd_T51 l1 x0).f0.f0))) (fun _ hk => hk.2) (.int .u64 ((rd_T51 l1 x0).f0.f1.f0))) (fun _ hk => hk.2) (.int .u64 ((rd_T51 l1 x0).f0.f1.f1))) (fun _ hk => hk.2) (.int .u64 ((rd_T51 l1 x0).f0.f1.f2))) (fun _ hk => hk.2) (.int .u64 ((rd_T51 l1 x0).f0.f1.f3))) (fun _ hk => ⟨hk.1.1.1.1.1.1, ⟨hk.1.1.1.1.2, ⟨hk.1.1.1.2, ⟨hk.1.1.2, hk.1.2⟩⟩⟩⟩)))) (fun k_ hk => by first | exact ⟨(.inr (hk.1)), hk.2⟩ | exact (.inr (hk)))⟩, ⟨blkU_ BK0.out⟩, ⟨blkU_ BK1.out⟩, ⟨blkU_ BK2.out⟩, ⟨blkF_ BK3.out⟩, ⟨bel_⟩⟩
       ·replace c17 := Bool.eq_false_iff.mpr c17
        subst c17
        rw [if_neg (show ¬ (false = true) by decide)] at H
        obtain ⟨⟨t12, t13, t16⟩, A8, H⟩ := bnd_ H
        dsimp only at H
        simp only [Option.some.injEq, Prod.mk.injEq] at H
        obtain ⟨rfl, rfl, rfl⟩ := H
        have p0 : 0 ≤ (x0 : Int) := ofd_
        have q0 : x0 < (l1.length : Int) := ofd_
        obtain ⟨ad0, A0, c0, e0, hx0, hx1, hx2, hx3, hx4, hx5, hl0, hi0⟩ := at_T51 HR1.out x0 p0 q0
        cases e0
        replace hx0 := pc_ HB.out hx0
        replace hx1 := pc_ HB.out hx1
        replace hx2 := pc_ HB.out hx2
        replace hx3 := pc_ HB.out hx3
        replace hx4 := pc_ HB.out hx4
        replace hx5 := pc_ HB.out hx5
        have HR1106_5 := a_ hi0
        have HC1106_5 := a_ hl0
        clear hi0 hl0
        replace p0 := eq_true p0
        replace q0 := eq_true q0
        go_wp2_with (first | (refine bx_ 21 #[.int .i64 0, .int .u64 0, .int .u64 0, .int .u64 0, .int .u64 0, .slice none 0 0] 51 ?_; intro gb1 w12 hg hb BK4 GW0; replace HO_0 := a_ (Kd.V_below (Kd.V_elderB (uV_ HO_0.out) gb1 (Nat.le_of_eq hg.symm)) hb); replace HB := s_ hb; obtain ⟨NB11, NB16⟩ := ne2_ BK0.out hg; replace BK0 := bb_ BK0.out hb; obtain ⟨NB12, NB17⟩ := ne2_ BK1.out hg; replace BK1 := bb_ BK1.out hb; obtain ⟨NB13, NB18⟩ := ne2_ BK2.out hg; replace BK2 := bb_ BK2.out hb; obtain ⟨NB15, NB19⟩ := ne2_ BK3.out hg; replace BK3 := bb_ BK3.out hb; clear hb hg; have hnb23 := NB16.out; have hnc23 := NB11.out; have hnb24 := NB17.out; have hnc24 := NB12.out; have hnb25 := NB18.out; have hnc25 := NB13.out; have hnb26 := NB19.out; have hnc26 := NB15.out; obtain ⟨z73, z74, z75, z76, z77, z78, f67, f68, f69, f70, f71, f72⟩ := cz6_ BK4.out; have hnb27 := NB14.out; have hnc27 := NB10.out; have hnb28 := NB8.out; have hnc28 := NB6.out; have hnb29 := NB9.out; have hnc29 := NB7.out; obtain ⟨z79, z80, z81, z82, z83, f73, f74, f75, f76, f77⟩ := cz5_ BK3.out; obtain ⟨Ao1, co1, eo2⟩ := Kd.V_slice HO_0.out; subst eo2) | (refine gcL_ 38 (some 72) Try.func38 #[.int .i64 x2, .int .i64 ((rd_T51 l1 x0).f0.f0), .int .i64 a5, .slice Ao1 x1.length co1, .slice A0 ((rd_T51 l1 x0).f1).length c0] ?_; (with_reducible refine (impl_GrowthLift.calls _ _ _ _ _ _ _ _ _ _ _ _ _ ?side1 ?side2 ?side3 ?side4 A4.out).mono ?_); (case side1 => refine (Kd.V_reads' (e := 29) (base := w.heap.size) (ok := fun k_ => (((P4_ k_ ∨ w.heap.size ≤ k_) ∧ (k_ ≠ gb4 ∧ (k_ ≠ gb3 ∧ (k_ ≠ gb0 ∧ k_ ≠ gb2)))) ∧ k_ ≠ gb1)) (n := x1.length) (c := co1) ?_).2.2; exact (uV_ (Kd.V_mono (Kd.V_far (p := ⟨gb1, 5, none⟩) (Kd.V_far (p := ⟨gb1, 4, none⟩) (Kd.V_far (p := ⟨gb1, 3, none⟩) (Kd.V_far (p := ⟨gb1, 2, none⟩) (Kd.V_far (p := ⟨gb1, 1, none⟩) (Kd.V_far (p := ⟨gb1, 0, none⟩) (Kd.V_mono HO_0.out (fun k_ hk => (⟨hk, hk.2⟩ : _ ∧ k_ ≠ gb1))) (fun _ hk => hk.2) (.int .i64 ((rd_T51 l1 x0).f0.f0))) (fun _ hk => hk.2) (.int .u64 ((rd_T51 l1 x0).f0.f1.f0))) (fun _ hk => hk.2) (.int .u64 ((rd_T51 l1 x0).f0.f1.f1))) (fun _ hk => hk.2) (.int .u64 ((rd_T51 l1 x0).f0.f1.f2))) (fun _ hk => hk.2) (.int .u64 ((rd_T51 l1 x0).f0.f1.f3))) (fun _ hk => hk.2) (.slice A0 ((rd_T51 l1 x0).f1).length c0)) (fun _ h_ => h_.1)))); (case side2 => exact (Kd.V_reads' HO_0.out).2.1); (case side3 => exact Kd.C_below HR1106_5.out bel_); (case side4 => exact HC1106_5.out); rintro e w13 ⟨v0, rfl, ho0, hb⟩; refine ⟨_, rfl, ?_⟩; replace HO_0 := a_ (Kd.V_elder' (uV_ (Kd.V_mono (Kd.V_far (p := ⟨gb1, 5, none⟩) (Kd.V_far (p := ⟨gb1, 4, none⟩) (Kd.V_far (p := ⟨gb1, 3, none⟩) (Kd.V_far (p := ⟨gb1, 2, none⟩) (Kd.V_far (p := ⟨gb1, 1, none⟩) (Kd.V_far (p := ⟨gb1, 0, none⟩) (Kd.V_mono HO_0.out (fun k_ hk => (⟨hk, hk.2⟩ : _ ∧ k_ ≠ gb1))) (fun _ hk => hk.2) (.int .i64 ((rd_T51 l1 x0).f0.f0))) (fun _ hk => hk.2) (.int .u64 ((rd_T51 l1 x0).f0.f1.f0))) (fun _ hk => hk.2) (.int .u64 ((rd_T51 l1 x0).f0.f1.f1))) (fun _ hk => hk.2) (.int .u64 ((rd_T51 l1 x0).f0.f1.f2))) (fun _ hk => hk.2) (.int .u64 ((rd_T51 l1 x0).f0.f1.f3))) (fun _ hk => hk.2) (.slice A0 ((rd_T51 l1 x0).f1).length c0)) (fun _ h_ => h_.1))) (Kd.R_base ho0) hb); have HO1 := a_ (Kd.R_lower (Kd.R_newM (M := fun k_ => (w.heap.size ≤ k_)) ho0 (below_size bel_) (fun k_ h_ => h_)) (below_size bel_)); replace BK0 := bb_ BK0.out hb; replace BK1 := bb_ BK1.out hb; replace BK2 := bb_ BK2.out hb; replace BK3 := bb_ BK3.out hb; replace BK4 := blkPB_ (cs := #[.int .i64 ((rd_T51 l1 x0).f0.f0), .int .u64 ((rd_T51 l1 x0).f0.f1.f0), .int .u64 ((rd_T51 l1 x0).f0.f1.f1), .int .u64 ((rd_T51 l1 x0).f0.f1.f2), .int .u64 ((rd_T51 l1 x0).f0.f1.f3), .slice A0 ((rd_T51 l1 x0).f1).length c0]) BK4.out hb; replace HB := s_ hb; clear hb; (try clear ho0); obtain ⟨z84, z85, z86, z87, z88, z89, f78, f79, f80, f81, f82, f83⟩ := cz6_ BK4.out; obtain ⟨Ao3, co3, eo3⟩ := Kd.R_slice HO1.out; subst eo3) | (refine gcB_ 51 80 Try.func51 (impl_PathCheck.calls _ _ _ _ _ _ _ _ _ _ _ _ _ ?side1 ?side2 A5.out) ?_; (case side1 => exact cU_ (Kd.R_reads' HO1.out).2.2); (case side2 => exact (Kd.R_reads' HO1.out).2.1); intro w14 hb; replace HO_0 := a_ (Kd.V_below (uV_ HO_0.out) hb); replace HO1 := rb_ HO1.out hb; replace BK0 := bb_ BK0.out hb; replace BK1 := bb_ BK1.out hb; replace BK2 := bb_ BK2.out hb; replace BK3 := bb_ BK3.out hb; replace BK4 := bb_ BK4.out hb; replace HB := s_ hb; clear hb; obtain ⟨z90, z91, z92, z93, z94, f84, f85, f86, f87, f88⟩ := cz5_ BK3.out; obtain ⟨z95, z96, z97, z98, z99, z101, f89, f90, f91, f92, f93, f94⟩ := cz6_ BK4.out) | (refine gcB_ 22 87 Try.func22 (impl_ClashOfGrowth.calls _ _ _ _ _ _ _ _ _ _ _ _ _ _ _ _ _ _ _ _ _ _ _ ?side1 ?side2 ?side3 ?side4 A8.out) ?_; (case side1 => exact cU_ (Kd.C_below HR1106_5.out HB.out)); (case side2 => exact HC1106_5.out); (case side3 => exact cU_ (Kd.V_reads' HO_0.out).2.2); (case side4 => exact (Kd.V_reads' HO_0.out).2.1); intro w15 hb; replace HO_0 := a_ (Kd.V_below (uV_ HO_0.out) hb); replace HO1 := rb_ HO1.out hb; replace BK0 := bb_ BK0.out hb; replace BK1 := bb_ BK1.out hb; replace BK2 := bb_ BK2.out hb; replace BK3 := bb_ BK3.out hb; replace BK4 := bb_ BK4.out hb; replace HB := s_ hb; clear hb; have hnb30 := NB1.out; have hnc30 := NB0.out; have hnb31 := NB3.out; have hnc31 := NB5.out; obtain ⟨z102, z103, f95, f96⟩ := cz2_ BK1.out))
        refine bodyPost_ret (results_ct rfl _ _ gb3 46 #[.string t12, .string t13] (0, 0) _ rfl (blkF_ BK1.out) Try.underlying46 rfl (by kernel_rfl)) rfl ?_
        exact ⟨rfl_, bel_⟩
      ·rw [if_neg c14] at H
       have c19 := decide_eq_false c14
       clear c14
       obtain ⟨⟨t8, t9, t14⟩, A10, H⟩ := bnd_ H
       dsimp only at H
       simp only [Option.some.injEq, Prod.mk.injEq] at H
       obtain ⟨rfl, rfl, rfl⟩ := H
       have hnb32 := NB4.out
       have hnc32 := NB2.out
       have hnb33 := NB5.out
       have hnc33 := NB3.out
       have hnb34 := NB7.out
       have hnc34 := NB9.out
       obtain ⟨z104, z105, z106, z107, z108, f97, f98, f99, f100, f101⟩ := cz5_ BK2.out
       obtain ⟨Ao4, co4, eo4⟩ := Kd.V_slice HO_0.out
       subst eo4
       go_wp2_with (first | (refine gcB_ 57 101 Try.func57 (impl_ClashOfPaths.calls _ _ _ _ _ _ _ _ _ _ _ _ _ _ _ ?side1 ?side2 ?side3 ?side4 A10.out) ?_; (case side1 => exact cU_ (Kd.V_reads' HO_0.out).2.2); (case side2 => exact (Kd.V_reads' HO_0.out).2.1); (case side3 => exact cU_ (Kd.C_below HR6.out HB.out)); (case side4 => exact HC6.out); intro w16 hb; replace HO_0 := a_ (Kd.V_below (uV_ HO_0.out) hb); replace BK0 := bb_ BK0.out hb; replace BK1 := bb_ BK1.out hb; replace BK2 := bb_ BK2.out hb; replace BK3 := bb_ BK3.out hb; replace HB := s_ hb; clear hb; have hnb35 := NB1.out; have hnc35 := NB0.out; have hnb0 := NB6.out; have hnc0 := NB8.out; obtain ⟨z41, z43, f37, f38⟩ := cz2_ BK1.out))
       refine bodyPost_ret (results_ct rfl _ _ gb3 46 #[.string t8, .string t9] (0, 0) _ rfl (blkF_ BK1.out) Try.underlying46 rfl (by kernel_rfl)) rfl ?_
       exact ⟨rfl_, bel_⟩
end
end
end Go.Proofs.Ytflckegggopdnaa.B
