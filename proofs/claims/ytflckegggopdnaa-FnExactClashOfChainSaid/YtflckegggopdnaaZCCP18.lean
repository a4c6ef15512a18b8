/- Texts that this claim's law leans on, without what nothing names. What each says stands at its theorems; conditions stand in them. (Put together by the session's program shake.py; Lean checks it.) -/
import Derived.Test.YtflckegggopdnaaZCCP0
import Derived.Test.YtflckegggopdnaaZCCP2
import Derived.Test.YtflckegggopdnaaZCCP17
import Derived.Test.YtflckegggopdnaaZCCP10
import Derived.Test.YtflckegggopdnaaZCCP6
import Derived.Test.YtflckegggopdnaaZCCP11
import Derived.Test.YtflckegggopdnaaZCCP12
import Derived.Test.YtflckegggopdnaaZCCP3
import Derived.Test.YtflckegggopdnaaZCCP9
import Derived.Test.YtflckegggopdnaaZCCP5
import Derived.Test.YtflckegggopdnaaZCCP8
set_option linter.unusedVariables false
set_option maxHeartbeats 8000000
set_option maxRecDepth 100000
set_option linter.unusedSimpArgs false
namespace Go.Proofs.Ytflckegggopdnaa.B
section
open Go.RowKit Go.Proofs.YtflckegggopdnaaW
section
def spec_ChainEnd.l0 : Nat → List (S51) → Int → Int → Int → Int → Int → Int → Option (Int × Int × Int × Int × Int × Bool)
 | 0, _, _, _, _, _, _, _ => none
 | k + 1, x1, x0, x2, x3, x4, x5, x6 => if x0 < (x1.length : Int) then (if 0 ≤ x0 then ((spec_GrowthCheck.f k x2 x3 x4 x5 x6 ((rd_T51 x1 x0).f0.f0) ((rd_T51 x1 x0).f0.f1.f0) ((rd_T51 x1 x0).f0.f1.f1) ((rd_T51 x1 x0).f0.f1.f2) ((rd_T51 x1 x0).f0.f1.f3) ((rd_T51 x1 x0).f1)).bind fun t0 => (if t0 = 0 then (spec_ChainEnd.l0 k x1 (wrap64 (x0 + 1)) ((rd_T51 x1 x0).f0.f0) ((rd_T51 x1 x0).f0.f1.f0) ((rd_T51 x1 x0).f0.f1.f1) ((rd_T51 x1 x0).f0.f1.f2) ((rd_T51 x1 x0).f0.f1.f3)) else (some (0, 0, 0, 0, 0, false)))) else (none)) else (some (x2, x3, x4, x5, x6, true))
def spec_ChainEnd.f (k : Nat) (a0 a1 a2 a3 a4 : Int) (l1 : List (S51)) : Option (Int × Int × Int × Int × Int × Bool) := if (l1.length : Int) > 256 then (some (0, 0, 0, 0, 0, false)) else (spec_ChainEnd.l0 k l1 0 a0 a1 a2 a3 a4)
def spec_ChainEnd.T7 : TT_ := (true, [([], []), ([], []), ([], []), ([1, 2], [1, 2]), ([3], [3]), ([4], [4]), ([], []), ([], []), ([6, 7], [6, 7]), ([8], [8]), ([9], [9]), ([0, 5, 10], [0, 5, 10]), ([11], [11])])
def spec_ChainEnd.B7 : List Nat := [0, 0, 0, 6, 14, 30, 0, 0, 192, 448, 960, 2047, 4095]
theorem spec_ChainEnd.tab7 : rtab .any (opsOf Try.f11 7) = spec_ChainEnd.T7 := by kernel_rfl
theorem spec_ChainEnd.bits7 : waitsOk spec_ChainEnd.T7.2 spec_ChainEnd.B7 = true := by kernel_rfl
theorem spec_ChainEnd.calls (k : Nat) (a0 a1 a2 a3 a4 : Int) (A1 : Option Addr) (c12 : Nat) (l1 : List (S51)) (r0 r1 r2 r3 r4 : Int) (r5 : Bool) (w : World) (hr1 : Kd.C k51 w A1 l1.length l1) (hc1 : l1.length ≤ c12) (h : spec_ChainEnd.f k a0 a1 a2 a3 a4 l1 = some (r0, r1, r2, r3, r4, r5)) :
  Calls Try.prog 11 #[.agg #[.int .i64 a0, .int .u64 a1, .int .u64 a2, .int .u64 a3, .int .u64 a4], .slice A1 l1.length c12] w fun e w' => e = .returned (.tuple #[.agg #[.int .i64 r0, .int .u64 r1, .int .u64 r2, .int .u64 r3, .int .u64 r4], .bool r5]) ∧ Below w.heap.size w w' := by
 have hu31 := Try.underlying31
 have HR1 := a_ hr1
 have HC1 := a_ hc1
 clear hr1 hc1
 have HB := rB_ w
 have H := h
 unfold spec_ChainEnd.f at H
 clear h
 by_cases c3 : (l1.length : Int) > 256
 ·rw [if_pos c3] at H
  have c13 : decide (256 < (l1.length : Int)) = true := decide_eq_true c3
  have c14 : decide (256 < l1.length) = true := decide_eq_true (by omega)
  clear c3
  simp only [Option.some.injEq, Prod.mk.injEq] at H
  obtain ⟨rfl, rfl, rfl, rfl, rfl, rfl⟩ := H
  go_enter Try.func11, Try.ntmps11
  go_wp2_with (first | (refine bx_ 2 #[.int .i64 a0, .int .u64 a1, .int .u64 a2, .int .u64 a3, .int .u64 a4] 31 ?_; intro gb2 w6 hg hb BK1 GW0; replace HB := s_ hb; clear hb hg) | (refine bx_ 4 #[.int .i64 0, .int .u64 0, .int .u64 0, .int .u64 0, .int .u64 0] 31 ?_; intro gb1 w7 hg hb BK2 GW1; replace HB := s_ hb; obtain ⟨NB0, NB1⟩ := ne2_ BK1.out hg; replace BK1 := bb_ BK1.out hb; clear hb hg; have hnb10 := NB1.out; have hnc10 := NB0.out; obtain ⟨z10, z11, z12, z13, z14, f10, f11, f12, f13, f14⟩ := cz5_ BK2.out))
  refine bodyPost_ret (results_ct rfl _ _ gb1 31 #[.int .i64 0, .int .u64 0, .int .u64 0, .int .u64 0, .int .u64 0] (0, 0) _ rfl (blkF_ BK2.out) Try.underlying31 rfl (by kernel_rfl)) rfl ?_
  exact ⟨rfl_, bel_⟩
 ·rw [if_neg c3] at H
  have c13 : decide (256 < (l1.length : Int)) = false := decide_eq_false c3
  have c14 : decide (256 < l1.length) = false := decide_eq_false (by omega)
  clear c3
  have H' := a_ H
  clear H
  go_enter Try.func11, Try.ntmps11
  go_wp2_with (first | (refine bx_ 2 #[.int .i64 a0, .int .u64 a1, .int .u64 a2, .int .u64 a3, .int .u64 a4] 31 ?_; intro gb2 w8 hg hb BK1 GW0; replace HB := s_ hb; clear hb hg) | (refine bx_ 4 #[.int .i64 0, .int .u64 0, .int .u64 0, .int .u64 0, .int .u64 0] 31 ?_; intro gb1 w9 hg hb BK2 GW1; replace HB := s_ hb; obtain ⟨NB0, NB1⟩ := ne2_ BK1.out hg; replace BK1 := bb_ BK1.out hb; clear hb hg; have hnb0 := NB0.out; have hnc0 := NB1.out; obtain ⟨z0, z1, z2, z3, z4, f0, f1, f2, f3, f4⟩ := cz5_ BK1.out) | (refine bx_ 6 #[.int .i64 0, .int .u64 0, .int .u64 0, .int .u64 0, .int .u64 0] 31 ?_; intro gb0 w1 hg hb BK0 GW2; replace HB := s_ hb; obtain ⟨NB4, NB5⟩ := ne2_ BK1.out hg; replace BK1 := bb_ BK1.out hb; obtain ⟨NB2, NB3⟩ := ne2_ BK2.out hg; replace BK2 := bb_ BK2.out hb; clear hb hg; have hnb1 := NB5.out; have hnc1 := NB4.out; have hnb2 := NB3.out; have hnc2 := NB2.out; obtain ⟨z5, z6, z7, z8, z9, f5, f6, f7, f8, f9⟩ := cz5_ BK0.out))
  go_loopg [7] k (fun kq v0 w' => ∃ (x0 x6 x7 x8 x9 x10 x1 x2 x3 x4 x5 : Int), v0 = .int .i64 x0 ∧ Aside0 (spec_ChainEnd.l0 kq l1 x0 x1 x2 x3 x4 x5 = some (r0, r1, r2, r3, r4, r5)) ∧ Aside0 (kq ≤ k) ∧ Aside0 (w'.heap[gb2]? = some (.cells #[.int .i64 a0, .int .u64 a1, .int .u64 a2, .int .u64 a3, .int .u64 a4] 31 (0, 0))) ∧ Aside0 (w'.heap[gb1]? = some (.cells #[.int .i64 x6, .int .u64 x7, .int .u64 x8, .int .u64 x9, .int .u64 x10] 31 (0, 0))) ∧ Aside0 (w'.heap[gb0]? = some (.cells #[.int .i64 x1, .int .u64 x2, .int .u64 x3, .int .u64 x4, .int .u64 x5] 31 (0, 0))) ∧ Aside0 (Below w.heap.size w w'))
  case atStart => exact ⟨(0), (0), (0), (0), (0), (0), (a0), (a1), (a2), (a3), (a4), rl_, H', ⟨Nat.le_refl _⟩, ⟨blkU_ BK1.out⟩, ⟨blkU_ BK2.out⟩, ⟨blkF_ BK0.out⟩, ⟨bel_⟩⟩
  case round =>
   clear H'
   (try clear c12); (try clear c3); (try clear c13); (try clear c14); (try clear z0 z1 z2 z3 z4); (try clear z5 z6 z7 z8 z9); (try clear z10 z11 z12 z13 z14); (try clear f0 f1 f2 f3 f4); (try clear f5 f6 f7 f8 f9); (try clear f10 f11 f12 f13 f14)
   obtain ⟨x0, x6, x7, x8, x9, x10, x1, x2, x3, x4, x5, rfl, HA, HK1, BK1, BK2, BK0, HB⟩ := hrel
   cases gk with
   | zero => exact absurd HA.out (by simp [spec_ChainEnd.l0])
   | succ k1 =>
    have H := HA.out
    clear HA
    simp only [spec_ChainEnd.l0] at H
    by_cases c11 : x0 < (l1.length : Int)
    ·rw [if_pos c11] at H
     have c15 := decide_eq_true c11
     clear c11
     obtain ⟨c19, H⟩ := ifd_ H
     obtain ⟨t0, A2, H⟩ := bnd_ H
     by_cases c0 : t0 = 0
     ·rw [if_pos c0] at H
      have c16 := beq_iff_eq.mpr c0
      have c17 := bne_eq_false_iff_eq.mpr c0
      clear c0
      have H' := a_ H
      clear H
      try go_wp2
      replace BK1 := a_ (blk_drew BK1.out)
      replace BK2 := a_ (blk_drew BK2.out)
      replace BK0 := a_ (blk_drew BK0.out)
      replace HB := a_ (below_drew1 HB.out)
      have p0 : 0 ≤ (x0 : Int) := ofd_
      have q0 : x0 < (l1.length : Int) := ofd_
      obtain ⟨ad0, A0, c1, e0, hx2, hx3, hx4, hx5, hx6, hx0, hl0, hi0⟩ := at_T51 HR1.out x0 p0 q0
      have hw5 := hx0
      have hw4 := hx6
      have hw3 := hx5
      have hw2 := hx4
      have hw1 := hx3
      have hw0 := hx2
      cases e0
      replace hx2 := pc_ HB.out hx2
      replace hx3 := pc_ HB.out hx3
      replace hx4 := pc_ HB.out hx4
      replace hx5 := pc_ HB.out hx5
      replace hx6 := pc_ HB.out hx6
      replace hx0 := pc_ HB.out hx0
      have HR229_5 := a_ hi0
      have HC229_5 := a_ hl0
      clear hi0 hl0
      replace p0 := eq_true p0
      replace q0 := eq_true q0
      have p1 : 0 ≤ (x0 : Int) := ofd_
      have q1 : x0 < (l1.length : Int) := ofd_
      obtain ⟨ad1, A3, c18, e1, hx7, hx8, hx9, hx10, hx11, hx1, hl1, hi1⟩ := at_T51 HR1.out x0 p1 q1
      have hw11 := hx1
      have hw10 := hx11
      have hw9 := hx10
      have hw8 := hx9
      have hw7 := hx8
      have hw6 := hx7
      obtain rfl : ad0 = ad1 := (by injection e1)
      replace hx7 := pc_ HB.out hx7
      replace hx8 := pc_ HB.out hx8
      replace hx9 := pc_ HB.out hx9
      replace hx10 := pc_ HB.out hx10
      replace hx11 := pc_ HB.out hx11
      replace hx1 := pc_ HB.out hx1
      have HR230_5 := a_ hi1
      have HC230_5 := a_ hl1
      clear hi1 hl1
      replace p1 := eq_true p1
      replace q1 := eq_true q1
      have ea_ := Option.some.inj (hx0.symm.trans hx1)
      injection ea_ with ea_ en_ ec_
      subst ea_
      subst ec_
      clear en_
      refine start_ (n := 13) (S := fun w' => w'.cell? ⟨gb0, 0, none⟩ = some (.int .i64 x1) ∧ w'.cell? ⟨gb0, 1, none⟩ = some (.int .u64 x2) ∧ w'.cell? ⟨gb0, 2, none⟩ = some (.int .u64 x3) ∧ w'.cell? ⟨gb0, 3, none⟩ = some (.int .u64 x4) ∧ w'.cell? ⟨gb0, 4, none⟩ = some (.int .u64 x5) ∧ w'.cell? (ad0.add ((x0).toNat * 6)) = some (.int .i64 ((rd_T51 l1 x0).f0.f0)) ∧ w'.cell? ⟨(ad0.add ((x0).toNat * 6)).block, (ad0.add ((x0).toNat * 6)).off + 1, none⟩ = some (.int .u64 ((rd_T51 l1 x0).f0.f1.f0)) ∧ w'.cell? ⟨(ad0.add ((x0).toNat * 6)).block, (ad0.add ((x0).toNat * 6)).off + 2, none⟩ = some (.int .u64 ((rd_T51 l1 x0).f0.f1.f1)) ∧ w'.cell? ⟨(ad0.add ((x0).toNat * 6)).block, (ad0.add ((x0).toNat * 6)).off + 3, none⟩ = some (.int .u64 ((rd_T51 l1 x0).f0.f1.f2)) ∧ w'.cell? ⟨(ad0.add ((x0).toNat * 6)).block, (ad0.add ((x0).toNat * 6)).off + 4, none⟩ = some (.int .u64 ((rd_T51 l1 x0).f0.f1.f3)) ∧ w'.cell? ⟨(ad0.add ((x0).toNat * 6)).block, (ad0.add ((x0).toNat * 6)).off + 5, none⟩ = some (.slice A0 ((rd_T51 l1 x0).f1).length c1) ∧ w'.cell? (ad0.add ((x0).toNat * 6)) = some (.int .i64 ((rd_T51 l1 x0).f0.f0)) ∧ w'.cell? ⟨(ad0.add ((x0).toNat * 6)).block, (ad0.add ((x0).toNat * 6)).off + 1, none⟩ = some (.int .u64 ((rd_T51 l1 x0).f0.f1.f0)) ∧ w'.cell? ⟨(ad0.add ((x0).toNat * 6)).block, (ad0.add ((x0).toNat * 6)).off + 2, none⟩ = some (.int .u64 ((rd_T51 l1 x0).f0.f1.f1)) ∧ w'.cell? ⟨(ad0.add ((x0).toNat * 6)).block, (ad0.add ((x0).toNat * 6)).off + 3, none⟩ = some (.int .u64 ((rd_T51 l1 x0).f0.f1.f2)) ∧ w'.cell? ⟨(ad0.add ((x0).toNat * 6)).block, (ad0.add ((x0).toNat * 6)).off + 4, none⟩ = some (.int .u64 ((rd_T51 l1 x0).f0.f1.f3)) ∧ w'.cell? ⟨(ad0.add ((x0).toNat * 6)).block, (ad0.add ((x0).toNat * 6)).off + 5, none⟩ = some (.slice A0 ((rd_T51 l1 x0).f1).length c1)) (ds := []) #[false, false, false, false, false, false, false, false, false, false, false, false, false] (by kernel_rfl) rfl rfl ⟨(blk_cell BK0.out 0).trans rfl, (blk_cell BK0.out 1).trans rfl, (blk_cell BK0.out 2).trans rfl, (blk_cell BK0.out 3).trans rfl, (blk_cell BK0.out 4).trans rfl, (pc_ HB.out hw0), (pc_ HB.out hw1), (pc_ HB.out hw2), (pc_ HB.out hw3), (pc_ HB.out hw4), (pc_ HB.out hw5), (pc_ HB.out hw6), (pc_ HB.out hw7), (pc_ HB.out hw8), (pc_ HB.out hw9), (pc_ HB.out hw10), (pc_ HB.out hw11)⟩ (fun hHeld => ?_); refine with_tabW spec_ChainEnd.tab7 spec_ChainEnd.bits7 (fun HT HW_ => ?_)
      generalize wr.drew = w2 at BK1 BK2 BK0 HB HR229_5 HR230_5 hx2 hx3 hx4 hx5 hx6 hx0 hx7 hx8 hx9 hx10 hx11 hx1 hHeld ⊢
      refine qP_ 1 20 13 2 ?_
      refine qP_ 2 21 13 6 ?_
      refine qP_ 3 22 13 14 ?_
      refine qP_ 4 23 13 30 ?_
      refine qP_ 6 25 13 94 ?_
      refine qP_ 7 26 13 222 ?_
      refine qP_ 8 27 13 478 ?_
      refine qP_ 9 28 13 990 ?_
      refine qT_ 0 19 13 991 ?_
      refine qT_ 5 24 13 1023 ?_
      refine qT_ 10 29 13 2047 ?_
      refine oneP_ 11 (some 30) (b_ 13 4095) HT (fun K hK => ?_)
      refine goN_ Try.func35 #[.agg #[.int .i64 x1, .int .u64 x2, .int .u64 x3, .int .u64 x4, .int .u64 x5], .agg #[.int .i64 ((rd_T51 l1 x0).f0.f0), .int .u64 ((rd_T51 l1 x0).f0.f1.f0), .int .u64 ((rd_T51 l1 x0).f0.f1.f1), .int .u64 ((rd_T51 l1 x0).f0.f1.f2), .int .u64 ((rd_T51 l1 x0).f0.f1.f3)], .slice A0 ((rd_T51 l1 x0).f1).length c1] ?_
      with_reducible refine (spec_GrowthCheck.calls _ _ _ _ _ _ _ _ _ _ _ _ _ _ _ _ ?side1 ?side2 A2.out).mono ?_
      (case side1 => exact cU_ (Kd.C_below HR230_5.out HB.out))
      (case side2 => exact HC230_5.out)
      rintro e w3 ⟨rfl, hb⟩
      refine ⟨_, rfl, ?_⟩
      replace BK1 := bb_ BK1.out hb
      replace BK2 := bb_ BK2.out hb
      replace BK0 := bb_ BK0.out hb
      replace HB := s_ hb
      (try clear hb)
      refine hK.out _ _ ⟨(blk_cell BK0.out 0).trans rfl, (blk_cell BK0.out 1).trans rfl, (blk_cell BK0.out 2).trans rfl, (blk_cell BK0.out 3).trans rfl, (blk_cell BK0.out 4).trans rfl, (pc_ HB.out hw0), (pc_ HB.out hw1), (pc_ HB.out hw2), (pc_ HB.out hw3), (pc_ HB.out hw4), (pc_ HB.out hw5), (pc_ HB.out hw6), (pc_ HB.out hw7), (pc_ HB.out hw8), (pc_ HB.out hw9), (pc_ HB.out hw10), (pc_ HB.out hw11)⟩ (fun hHeld => ?_)
      clear hK K
      refine normP_ (some 30) ?_
      refine qP_ 12 31 13 8191 ?_
      refine done_ (done_of HT.out (by kernel_rfl)) ?_
      have p2 : 0 ≤ (x0 : Int) := ofd_
      have q2 : x0 < (l1.length : Int) := ofd_
      obtain ⟨ad2, A4, c20, e2, hx12, hx13, hx14, hx15, hx16, hx17, hl2, hi2⟩ := at_T51 HR1.out x0 p2 q2
      obtain rfl : ad0 = ad2 := (by injection e2)
      replace hx12 := pc_ HB.out hx12
      replace hx13 := pc_ HB.out hx13
      replace hx14 := pc_ HB.out hx14
      replace hx15 := pc_ HB.out hx15
      replace hx16 := pc_ HB.out hx16
      replace hx17 := pc_ HB.out hx17
      have HR232_5 := a_ hi2
      have HC232_5 := a_ hl2
      clear hi2 hl2
      replace p2 := eq_true p2
      replace q2 := eq_true q2
      have hnb3 := NB5.out
      have hnc3 := NB4.out
      have hnb4 := NB3.out
      have hnc4 := NB2.out
      obtain ⟨z15, z16, z17, z18, z19, f15, f16, f17, f18, f19⟩ := cz5_ BK0.out
      try go_wp2
      go_roundg k1
      case measure => have := HK1.out; omega
      case rel => exact ⟨(wrap64 (x0 + 1)), (x6), (x7), (x8), (x9), (x10), ((rd_T51 l1 x0).f0.f0), ((rd_T51 l1 x0).f0.f1.f0), ((rd_T51 l1 x0).f0.f1.f1), ((rd_T51 l1 x0).f0.f1.f2), ((rd_T51 l1 x0).f0.f1.f3), rl_, H', ⟨by have := HK1.out; omega⟩, ⟨blkU_ BK1.out⟩, ⟨blkU_ BK2.out⟩, ⟨blkF_ BK0.out⟩, ⟨bel_⟩⟩
     ·rw [if_neg c0] at H
      have c16 := beq_eq_false_iff_ne.mpr c0
      have c17 := bne_iff_ne.mpr c0
      simp only [Option.some.injEq, Prod.mk.injEq] at H
      obtain ⟨rfl, rfl, rfl, rfl, rfl, rfl⟩ := H
      try go_wp2
      replace BK1 := a_ (blk_drew BK1.out)
      replace BK2 := a_ (blk_drew BK2.out)
      replace BK0 := a_ (blk_drew BK0.out)
      replace HB := a_ (below_drew1 HB.out)
      have p0 : 0 ≤ (x0 : Int) := ofd_
      have q0 : x0 < (l1.length : Int) := ofd_
      obtain ⟨ad0, A0, c1, e0, hx2, hx3, hx4, hx5, hx6, hx0, hl0, hi0⟩ := at_T51 HR1.out x0 p0 q0
      have hw5 := hx0
      have hw4 := hx6
      have hw3 := hx5
      have hw2 := hx4
      have hw1 := hx3
      have hw0 := hx2
      cases e0
      replace hx2 := pc_ HB.out hx2
      replace hx3 := pc_ HB.out hx3
      replace hx4 := pc_ HB.out hx4
      replace hx5 := pc_ HB.out hx5
      replace hx6 := pc_ HB.out hx6
      replace hx0 := pc_ HB.out hx0
      have HR229_5 := a_ hi0
      have HC229_5 := a_ hl0
      clear hi0 hl0
      replace p0 := eq_true p0
      replace q0 := eq_true q0
      have p1 : 0 ≤ (x0 : Int) := ofd_
      have q1 : x0 < (l1.length : Int) := ofd_
      obtain ⟨ad1, A3, c18, e1, hx7, hx8, hx9, hx10, hx11, hx1, hl1, hi1⟩ := at_T51 HR1.out x0 p1 q1
      have hw11 := hx1
      have hw10 := hx11
      have hw9 := hx10
      have hw8 := hx9
      have hw7 := hx8
      have hw6 := hx7
      obtain rfl : ad0 = ad1 := (by injection e1)
      replace hx7 := pc_ HB.out hx7
      replace hx8 := pc_ HB.out hx8
      replace hx9 := pc_ HB.out hx9
      replace hx10 := pc_ HB.out hx10
      replace hx11 := pc_ HB.out hx11
      replace hx1 := pc_ HB.out hx1
      have HR230_5 := a_ hi1
      have HC230_5 := a_ hl1
      clear hi1 hl1
      replace p1 := eq_true p1
      replace q1 := eq_true q1
      have ea_ := Option.some.inj (hx0.symm.trans hx1)
      injection ea_ with ea_ en_ ec_
      subst ea_
      subst ec_
      clear en_
      refine start_ (n := 13) (S := fun w' => w'.cell? ⟨gb0, 0, none⟩ = some (.int .i64 x1) ∧ w'.cell? ⟨gb0, 1, none⟩ = some (.int .u64 x2) ∧ w'.cell? ⟨gb0, 2, none⟩ = some (.int .u64 x3) ∧ w'.cell? ⟨gb0, 3, none⟩ = some (.int .u64 x4) ∧ w'.cell? ⟨gb0, 4, none⟩ = some (.int .u64 x5) ∧ w'.cell? (ad0.add ((x0).toNat * 6)) = some (.int .i64 ((rd_T51 l1 x0).f0.f0)) ∧ w'.cell? ⟨(ad0.add ((x0).toNat * 6)).block, (ad0.add ((x0).toNat * 6)).off + 1, none⟩ = some (.int .u64 ((rd_T51 l1 x0).f0.f1.f0)) ∧ w'.cell? ⟨(ad0.add ((x0).toNat * 6)).block, (ad0.add ((x0).toNat * 6)).off + 2, none⟩ = some (.int .u64 ((rd_T51 l1 x0).f0.f1.f1)) ∧ w'.cell? ⟨(ad0.add ((x0).toNat * 6)).block, (ad0.add ((x0).toNat * 6)).off + 3, none⟩ = some (.int .u64 ((rd_T51 l1 x0).f0.f1.f2)) ∧ w'.cell? ⟨(ad0.add ((x0).toNat * 6)).block, (ad0.add ((x0).toNat * 6)).off + 4, none⟩ = some (.int .u64 ((rd_T51 l1 x0).f0.f1.f3)) ∧ w'.cell? ⟨(ad0.add ((x0).toNat * 6)).block, (ad0.add ((x0).toNat * 6)).off + 5, none⟩ = some (.slice A0 ((rd_T51 l1 x0).f1).length c1) ∧ w'.cell? (ad0.add ((x0).toNat * 6)) = some (.int .i64 ((rd_T51 l1 x0).f0.f0)) ∧ w'.cell? ⟨(ad0.add ((x0).toNat * 6)).block, (ad0.add ((x0).toNat * 6)).off + 1, none⟩ = some (.int .u64 ((rd_T51 l1 x0).f0.f1.f0)) ∧ w'.cell? ⟨(ad0.add ((x0).toNat * 6)).block, (ad0.add ((x0).toNat * 6)).off + 2, none⟩ = some (.int .u64 ((rd_T51 l1 x0).f0.f1.f1)) ∧ w'.cell? ⟨(ad0.add ((x0).toNat * 6)).block, (ad0.add ((x0).toNat * 6)).off + 3, none⟩ = some (.int .u64 ((rd_T51 l1 x0).f0.f1.f2)) ∧ w'.cell? ⟨(ad0.add ((x0).toNat * 6)).block, (ad0.add ((x0).toNat * 6)).off + 4, none⟩ = some (.int .u64 ((rd_T51 l1 x0).f0.f1.f3)) ∧ w'.cell? ⟨(ad0.add ((x0).toNat * 6)).block, (ad0.add ((x0).toNat * 6)).off + 5, none⟩ = some (.slice A0 ((rd_T51 l1 x0).f1).length c1)) (ds := []) #[false, false, false, false, false, false, false, false, false, false, false, false, false] (by kernel_rfl) rfl rfl ⟨(blk_cell BK0.out 0).trans rfl, (blk_cell BK0.out 1).trans rfl, (blk_cell BK0.out 2).trans rfl, (blk_cell BK0.out 3).trans rfl, (blk_cell BK0.out 4).trans rfl, (pc_ HB.out hw0), (pc_ HB.out hw1), (pc_ HB.out hw2), (pc_ HB.out hw3), (pc_ HB.out hw4), (pc_ HB.out hw5), (pc_ HB.out hw6), (pc_ HB.out hw7), (pc_ HB.out hw8), (pc_ HB.out hw9), (pc_ HB.out hw10), (pc_ HB.out hw11)⟩ (fun hHeld => ?_); refine with_tabW spec_ChainEnd.tab7 spec_ChainEnd.bits7 (fun HT HW_ => ?_)
      generalize wr.drew = w4 at BK1 BK2 BK0 HB HR229_5 HR230_5 hx2 hx3 hx4 hx5 hx6 hx0 hx7 hx8 hx9 hx10 hx11 hx1 hHeld ⊢
      refine qP_ 1 20 13 2 ?_
      refine qP_ 2 21 13 6 ?_
      refine qP_ 3 22 13 14 ?_
      refine qP_ 4 23 13 30 ?_
      refine qP_ 6 25 13 94 ?_
      refine qP_ 7 26 13 222 ?_
      refine qP_ 8 27 13 478 ?_
      refine qP_ 9 28 13 990 ?_
      refine qT_ 0 19 13 991 ?_
      refine qT_ 5 24 13 1023 ?_
      refine qT_ 10 29 13 2047 ?_
      refine oneP_ 11 (some 30) (b_ 13 4095) HT (fun K hK => ?_)
      refine goN_ Try.func35 #[.agg #[.int .i64 x1, .int .u64 x2, .int .u64 x3, .int .u64 x4, .int .u64 x5], .agg #[.int .i64 ((rd_T51 l1 x0).f0.f0), .int .u64 ((rd_T51 l1 x0).f0.f1.f0), .int .u64 ((rd_T51 l1 x0).f0.f1.f1), .int .u64 ((rd_T51 l1 x0).f0.f1.f2), .int .u64 ((rd_T51 l1 x0).f0.f1.f3)], .slice A0 ((rd_T51 l1 x0).f1).length c1] ?_
      with_reducible refine (spec_GrowthCheck.calls _ _ _ _ _ _ _ _ _ _ _ _ _ _ _ _ ?side1 ?side2 A2.out).mono ?_
      (case side1 => exact cU_ (Kd.C_below HR230_5.out HB.out))
      (case side2 => exact HC230_5.out)
      rintro e w5 ⟨rfl, hb⟩
      refine ⟨_, rfl, ?_⟩
      replace BK1 := bb_ BK1.out hb
      replace BK2 := bb_ BK2.out hb
      replace BK0 := bb_ BK0.out hb
      replace HB := s_ hb
      (try clear hb)
      refine hK.out _ _ ⟨(blk_cell BK0.out 0).trans rfl, (blk_cell BK0.out 1).trans rfl, (blk_cell BK0.out 2).trans rfl, (blk_cell BK0.out 3).trans rfl, (blk_cell BK0.out 4).trans rfl, (pc_ HB.out hw0), (pc_ HB.out hw1), (pc_ HB.out hw2), (pc_ HB.out hw3), (pc_ HB.out hw4), (pc_ HB.out hw5), (pc_ HB.out hw6), (pc_ HB.out hw7), (pc_ HB.out hw8), (pc_ HB.out hw9), (pc_ HB.out hw10), (pc_ HB.out hw11)⟩ (fun hHeld => ?_)
      clear hK K
      refine normP_ (some 30) ?_
      refine qP_ 12 31 13 8191 ?_
      refine done_ (done_of HT.out (by kernel_rfl)) ?_
      have hnb5 := NB1.out
      have hnc5 := NB0.out
      have hnb6 := NB2.out
      have hnc6 := NB3.out
      obtain ⟨z20, z21, z22, z23, z25, f20, f21, f22, f23, f24⟩ := cz5_ BK2.out
      try go_wp2
      refine bodyPost_ret (results_ct rfl _ _ gb1 31 #[.int .i64 0, .int .u64 0, .int .u64 0, .int .u64 0, .int .u64 0] (0, 0) _ rfl (blkF_ BK2.out) Try.underlying31 rfl (by kernel_rfl)) rfl ?_
      exact ⟨rfl_, bel_⟩
    ·rw [if_neg c11] at H
     have c15 := decide_eq_false c11
     clear c11
     simp only [Option.some.injEq, Prod.mk.injEq] at H
     obtain ⟨rfl, rfl, rfl, rfl, rfl, rfl⟩ := H
     have hnb7 := NB5.out
     have hnc7 := NB4.out
     have hnb8 := NB3.out
     have hnc8 := NB2.out
     obtain ⟨z27, z28, z30, z32, z33, f25, f26, f27, f28, f29⟩ := cz5_ BK0.out
     have hnb9 := NB1.out
     have hnc9 := NB0.out
     obtain ⟨z34, z35, z36, z37, z38, f30, f31, f32, f33, f34⟩ := cz5_ BK2.out
     go_wp2
     refine bodyPost_ret (results_ct rfl _ _ gb1 31 #[.int .i64 x1, .int .u64 x2, .int .u64 x3, .int .u64 x4, .int .u64 x5] (0, 0) _ rfl (blkF_ BK2.out) Try.underlying31 rfl (by kernel_rfl)) rfl ?_
     exact ⟨rfl_, bel_⟩
end
section
def spec_GrowthLift.j0 : Nat → Int → Int → Int → List (S29) → List (S29) → List (S29) → Bool → Option ((List (S29)) × Bool)
 | 0, _, _, _, _, _, _, _ => none
 | k + 1, x0, x1, x4, x2, x5, x3, x6 => if x6 = true then (some (x3, false)) else (if x0 = x1 then ((spec_l3Digests.f k x2 x3).bind fun t1 => (some (t1, true))) else ((spec_l3PeakOf.f k x0 x4).bind fun bt0 => ((spec_l3Depth.f k bt0.2).bind fun t0 => (if 0 ≤ t0 then (if t0 ≤ (x2.length : Int) then ((spec_l3Above.f k 0 x1 x4 x0 x1 x5).bind fun t2 => ((spec_l3Digests.f k (x2.take (t0 : Int).toNat) t2).bind fun t3 => (some (t3, true)))) else (none)) else (none)))))
def spec_GrowthLift.f (k : Nat) (a0 a1 a2 : Int) (l3 l4 : List (S29)) : Option ((List (S29)) × Bool) := (some (([] : List (S29)) : List (S29))).bind fun y0 => ((spec_l3Sizes.f a0 a1).bind fun t0 => (if t0 = true then ((spec_l3Place.f a0 a2).bind fun t1 => (if t1 = true then ((spec_PathLen.f k a0 a2).bind fun t2 => (if (l3.length : Int) = t2 then ((spec_GrowthLen.f k a0 a1).bind fun t3 => (spec_GrowthLift.j0 k a0 a1 a2 l3 l4 y0 ((l4.length : Int) != t3))) else (spec_GrowthLift.j0 k a0 a1 a2 l3 l4 y0 true))) else (spec_GrowthLift.j0 k a0 a1 a2 l3 l4 y0 true))) else (spec_GrowthLift.j0 k a0 a1 a2 l3 l4 y0 true)))
def spec_GrowthLift.T7 : TT_ := (true, [([], []), ([], []), ([1], [1]), ([0, 2], [0, 2]), ([], []), ([], []), ([], []), ([], []), ([], []), ([4, 5, 6, 7, 8, 2], [4, 5, 6, 7, 8]), ([3, 9, 9], [3, 9]), ([10, 10, 0, 1, 2, 3, 4, 5, 6, 7, 8, 9, 10], [10]), ([11, 0, 1, 2, 3, 4, 5, 6, 7, 8, 9, 10, 11], [])])
def spec_GrowthLift.B7 : List Nat := [0, 0, 2, 7, 0, 0, 0, 0, 0, 502, 1023, 2047, 4095]
theorem spec_GrowthLift.tab7 : rtab .any (opsOf Try.f41 7) = spec_GrowthLift.T7 := by kernel_rfl
theorem spec_GrowthLift.bits7 : waitsOk spec_GrowthLift.T7.2 spec_GrowthLift.B7 = true := by kernel_rfl
theorem spec_GrowthLift.calls (k : Nat) (a0 a1 a2 : Int) (A0 : Option Addr) (c3 : Nat) (l3 : List (S29)) (A3 : Option Addr) (c4 : Nat) (l4 r0 : List (S29)) (r1 : Bool) (w : World) (hr3 : Kd.C k29 w A0 l3.length l3) (hc3 : l3.length ≤ c3) (hr4 : Kd.C k29 w A3 l4.length l4) (hc4 : l4.length ≤ c4) (h : spec_GrowthLift.f k a0 a1 a2 l3 l4 = some (r0, r1)) :
  Calls Try.prog 41 #[.int .i64 a0, .int .i64 a1, .int .i64 a2, .slice A0 l3.length c3, .slice A3 l4.length c4] w fun e w' => ∃ v0_ : Value, e = .returned (.tuple #[v0_, .bool r1]) ∧ Kd.R k29 29 w' w.heap.size (fun _ => True) v0_ r0 ∧ Below w.heap.size w w' := by
 have HR3 := a_ hr3
 have HC3 := a_ hc3
 clear hr3 hc3
 have HR4 := a_ hr4
 have HC4 := a_ hc4
 clear hr4 hc4
 have HB := rB_ w
 have H := h
 unfold spec_GrowthLift.f at H
 clear h
 obtain ⟨y0, hy1⟩ : ∃ y_ : List (S29), y_ = (([] : List (S29))) := ⟨_, rfl⟩
 replace H : ((spec_l3Sizes.f a0 a1).bind fun t1 => (if t1 = true then ((spec_l3Place.f a0 a2).bind fun t2 => (if t2 = true then ((spec_PathLen.f k a0 a2).bind fun t3 => (if (l3.length : Int) = t3 then ((spec_GrowthLen.f k a0 a1).bind fun t4 => (spec_GrowthLift.j0 k a0 a1 a2 l3 l4 y0 ((l4.length : Int) != t4))) else (spec_GrowthLift.j0 k a0 a1 a2 l3 l4 y0 true))) else (spec_GrowthLift.j0 k a0 a1 a2 l3 l4 y0 true))) else (spec_GrowthLift.j0 k a0 a1 a2 l3 l4 y0 true))) = some (r0, r1) := rpl_ hy1 H
 have Ny0 := a_ hy1
 clear hy1
 have HC6 := a_ H
 clear H
 go_enter Try.func41, Try.ntmps41
 go_upto_region 2 with (first | ((with_reducible refine gate_dst (N := 15) rfl ?_); (try (refine gate_guard (by rfl) ?_; dsimp only)); refine Kd.R_lit k29 _ 29 ?hg (N := 15) ?hd (xs := ([] : List (S29))) (inner := []) (ok := fun _ => True) (okp := fun _ => True) ?hr ?hp (fun _ hk => hk) trivial (Below.refl _ _) (Nat.le_refl _) (by simp) ?_; (case hd => rfl); (case hg => rfl); (case hr => first | (go_simp; done) | (go_simp; rfl)); (case hp => exact (Reps.none _ _)); intro v0 w5 ho1 hb hg_ hnew_; clear hg_ hnew_; (first | rw [← Ny0.out] at ho1 | (simp only [Int.reduceToNat] at ho1; rw [← Ny0.out] at ho1)); have HO1 := a_ (Kd.R_lower ho1 (below_size bel_)); replace HB := s_ hb; clear hb ho1))
 (try simp only [Act.put, List.setIfInBounds_toArray, List.set_cons_zero, List.set_cons_succ])
 go_cut [41] (fun v1 wc => ∃ (kq : Nat) (x0 : Bool), v1 = .bool x0 ∧ Aside0 (spec_GrowthLift.j0 kq a0 a1 a2 l3 l4 y0 x0 = some (r0, r1)) ∧ Aside0 (kq ≤ k) ∧ Aside0 (Kd.R k29 29 wc w.heap.size (fun _ => True) v0 y0) ∧ Aside0 (Below w.heap.size w wc))
 case first =>
  have H := HC6.out
  clear HC6
  obtain ⟨t1, A1, H⟩ := bnd_ H
  by_cases c10 : t1 = true
  ·subst c10
   rw [if_pos rfl] at H
   obtain ⟨t2, A2, H⟩ := bnd_ H
   by_cases c12 : t2 = true
   ·subst c12
    rw [if_pos rfl] at H
    obtain ⟨t3, A4, H⟩ := bnd_ H
    by_cases c0 : (l3.length : Int) = t3
    ·rw [if_pos c0] at H
     have c11 := beq_iff_eq.mpr c0
     have c16 := bne_eq_false_iff_eq.mpr c0
     clear c0
     (first | rw [c11] | (simp only [i64_w, i32_w]; rw [c11]) | skip)
     obtain ⟨t4, A5, H⟩ := bnd_ H
     have H' := a_ H
     clear H
     go_wp2_with (first | (refine gcD_ 66 18 Try.func66 (spec_l3Sizes.calls _ _ _ _ A1.out) ?_; intro nd) | (go_at_call 79; (with_reducible refine (spec_l3Place.calls _ _ _ _ A2.out).mono ?_); rintro e w' ⟨rfl, ⟨nd, rfl⟩⟩) | (go_at_call 81; (with_reducible refine (spec_PathLen.calls _ _ _ _ _ A4.out).mono ?_); rintro e w' ⟨rfl, ⟨nd, rfl⟩⟩) | (go_at_call 32; (with_reducible refine (spec_GrowthLen.calls _ _ _ _ _ A5.out).mono ?_); rintro e w' ⟨rfl, ⟨nd, rfl⟩⟩))
     go_meet
     case rel => exact ⟨_, (((l4.length : Int) != t4)), rl_, H', ⟨by first | omega | exact Nat.le_refl _⟩, ⟨kdU_ HO1.out⟩, ⟨bel_⟩⟩
    ·rw [if_neg c0] at H
     have c11 := beq_eq_false_iff_ne.mpr c0
     have c16 := bne_iff_ne.mpr c0
     (first | rw [c11] | (simp only [i64_w, i32_w]; rw [c11]) | skip)
     have H' := a_ H
     clear H
     go_wp2_with (first | (refine gcD_ 66 18 Try.func66 (spec_l3Sizes.calls _ _ _ _ A1.out) ?_; intro nd) | (go_at_call 79; (with_reducible refine (spec_l3Place.calls _ _ _ _ A2.out).mono ?_); rintro e w' ⟨rfl, ⟨nd, rfl⟩⟩) | (go_at_call 81; (with_reducible refine (spec_PathLen.calls _ _ _ _ _ A4.out).mono ?_); rintro e w' ⟨rfl, ⟨nd, rfl⟩⟩))
     go_meet
     case rel => exact ⟨_, (true), rl_, H', ⟨by first | omega | exact Nat.le_refl _⟩, ⟨kdU_ HO1.out⟩, ⟨bel_⟩⟩
   ·replace c12 := Bool.eq_false_iff.mpr c12
    subst c12
    rw [if_neg (show ¬ (false = true) by decide)] at H
    have H' := a_ H
    clear H
    go_wp2_with (first | (refine gcD_ 66 18 Try.func66 (spec_l3Sizes.calls _ _ _ _ A1.out) ?_; intro nd) | (go_at_call 79; (with_reducible refine (spec_l3Place.calls _ _ _ _ A2.out).mono ?_); rintro e w' ⟨rfl, ⟨nd, rfl⟩⟩))
    go_meet
    case rel => exact ⟨_, (true), rl_, H', ⟨by first | omega | exact Nat.le_refl _⟩, ⟨kdU_ HO1.out⟩, ⟨bel_⟩⟩
  ·replace c10 := Bool.eq_false_iff.mpr c10
   subst c10
   rw [if_neg (show ¬ (false = true) by decide)] at H
   have H' := a_ H
   clear H
   go_wp2_with (first | (refine gcD_ 66 18 Try.func66 (spec_l3Sizes.calls _ _ _ _ A1.out) ?_; intro nd))
   go_meet
   case rel => exact ⟨_, (true), rl_, H', ⟨by first | omega | exact Nat.le_refl _⟩, ⟨kdU_ HO1.out⟩, ⟨bel_⟩⟩
 case rest =>
  clear HC6
  (try clear c3); (try clear c4); (try clear c10); (try clear c12); (try clear c0); (try clear c11); (try clear c16)
  obtain ⟨kq, x0, rfl, HA, HJ5, HO_0, HB⟩ := hcut
  cases kq with
  | zero => exact absurd HA.out (by simp [spec_GrowthLift.j0])
  | succ kj0 =>
   have H := HA.out
   clear HA
   simp only [spec_GrowthLift.j0] at H
   by_cases c13 : x0 = true
   ·subst c13
    rw [if_pos rfl] at H
    simp only [Option.some.injEq, Prod.mk.injEq] at H
    obtain ⟨rfl, rfl⟩ := H
    go_wp2
    go_ret2
    exact ⟨_, rfl_, uR_ HO_0.out, bel_⟩
   ·replace c13 := Bool.eq_false_iff.mpr c13
    subst c13
    rw [if_neg (show ¬ (false = true) by decide)] at H
    by_cases c1 : a0 = a1
    ·rw [if_pos c1] at H
     have c17 := beq_iff_eq.mpr c1
     have c18 := bne_eq_false_iff_eq.mpr c1
     clear c1
     obtain ⟨t8, A6, H⟩ := bnd_ H
     simp only [Option.some.injEq, Prod.mk.injEq] at H
     obtain ⟨rfl, rfl⟩ := H
     obtain ⟨Ao0, co0, eo1⟩ := Kd.R_slice HO_0.out
     subst eo1
     go_wp2_with (first | (refine gcL_ 82 (some 48) Try.func82 #[.slice A0 l3.length c3, .slice Ao0 y0.length co0] ?_; (with_reducible refine (spec_l3Digests.calls _ _ _ _ _ _ _ _ _ ?side1 ?side2 ?side3 ?side4 A6.out).mono ?_); (case side1 => exact cU_ (Kd.C_below HR3.out HB.out)); (case side2 => exact HC3.out); (case side3 => exact cU_ (Kd.R_reads' HO_0.out).2.2); (case side4 => exact (Kd.R_reads' HO_0.out).2.1); rintro e w1 ⟨v2, rfl, ho0, hb⟩; refine ⟨_, rfl, ?_⟩; have HO2 := a_ (Kd.R_lower (Kd.R_new' ho0 (Kd.R_lt (kdU_ HO_0.out))) (below_size bel_)); replace HO_0 := a_ (Kd.R_elder' (kdU_ HO_0.out) (Kd.R_base ho0) hb); replace HB := s_ hb; clear hb; (try clear ho0)))
     go_ret2
     exact ⟨_, rfl_, uR_ (Kd.R_mono HO2.out (fun _ hk => trivial)), bel_⟩
    ·rw [if_neg c1] at H
     have c17 := beq_eq_false_iff_ne.mpr c1
     have c18 := bne_iff_ne.mpr c1
     obtain ⟨⟨t9, t7⟩, A7, H⟩ := bnd_ H
     dsimp only at H
     obtain ⟨t0, A8, H⟩ := bnd_ H
     obtain ⟨c14, H⟩ := ifn_ H
     have c19 := eq_true c14
     have c20 := decide_eq_true c14
     clear c14
     obtain ⟨c15, H⟩ := ifn_ H
     have c21 := eq_true c15
     have c22 := decide_eq_true c15
     clear c15
     obtain ⟨y1, hy2⟩ : ∃ y_ : List (S29), y_ = (l3.take (t0 : Int).toNat) := ⟨_, rfl⟩
     replace H : ((spec_l3Above.f kj0 0 a1 a2 a0 a1 l4).bind fun t5 => ((spec_l3Digests.f kj0 y1 t5).bind fun t6 => (some (t6, true)))) = some (r0, r1) := rpl_ hy2 H
     have Ny1 := a_ hy2
     clear hy2
     obtain ⟨t5, A9, H⟩ := bnd_ H
     obtain ⟨t6, A10, H⟩ := bnd_ H
     simp only [Option.some.injEq, Prod.mk.injEq] at H
     obtain ⟨rfl, rfl⟩ := H
     try go_wp2_with (first | (refine gcD_ 83 52 Try.func83 (spec_l3PeakOf.calls _ _ _ _ _ _ A7.out) ?_; intro nd))
     (try (rw [drewN_self wc]; generalize hq_ : World.drewN wc _ = wc; have n0_ : Aside0 (Kd.R k29 29 wc w.heap.size (fun _ => True) v0 y0) := ⟨by rw [← hq_]; exact (kdU_ HO_0.out)⟩; have n1_ : Aside0 (Below w.heap.size w wc) := ⟨by rw [← hq_]; exact bel_⟩; clear HO_0 HB hq_; have HO_0 := n0_; have HB := n1_; clear n0_ n1_))
     replace HO_0 := a_ (Kd.R_drew HO_0.out)
     replace HB := a_ (below_drew1 HB.out)
     refine start_ (n := 13) (S := fun w' => True) (ds := []) #[false, false, false, false, false, false, false, false, false, false, false, false, false] (by kernel_rfl) rfl rfl trivial (fun hHeld => ?_); refine with_tabW spec_GrowthLift.tab7 spec_GrowthLift.bits7 (fun HT HW_ => ?_)
     generalize wc.drew = w2 at HO_0 HB hHeld ⊢
     refine qP_ 0 55 13 1 ?_
     refine qP_ 1 56 13 3 ?_
     refine qP_ 4 59 13 19 ?_
     refine qP_ 5 60 13 51 ?_
     refine qP_ 6 61 13 115 ?_
     refine qP_ 7 62 13 243 ?_
     refine qP_ 8 63 13 499 ?_
     refine oneP_ 2 (some 57) (b_ 13 503) HT (fun K hK => ?_)
     refine goN_ Try.func84 #[.int .i64 t7] ?_
     with_reducible refine (spec_l3Depth.calls _ _ _ _ A8.out).mono ?_
     rintro e w' ⟨rfl, ⟨nd, rfl⟩⟩
     refine ⟨_, rfl, ?_⟩
     have q0 : (t0 : Int) ≤ ((l3.length : Int) : Int) := ofd_
     obtain ⟨i028, hi0, _, hsz28, _⟩ := info_parts info29
     have hroom28 : l3.length ≤ c3 := HC3.out
     have hC28 : Kd.C k29 _ A0 l3.length l3 := HR3.out
     have hcut28 := cut_to (P := Try.prog) 49 29 .i64 Try.underlying49 hi0 A0 l3.length c3 t0 (ofd_) q0 hroom28
     have hr28 := Kd.C_take (m := (t0 : Int).toNat) hC28 (by omega)
     have hy0 : y1.length = (t0 : Int).toNat := (by rw [Ny1.out, List.length_take]; omega)
     rw [← Ny1.out] at hr28
     rw [← hy0] at hcut28
     have HR611 := a_ hr28
     have HC611 := a_ (show y1.length ≤ c3 from by omega)
     clear hr28 hC28 hroom28 hi0 hsz28
     have KY28 := a_ hy0
     clear hy0
     replace q0 := eq_true q0
     refine hK.out _ _ trivial (fun hHeld => ?_)
     clear hK K
     refine normP_ (some 57) ?_
     refine qP_ 3 58 13 511 ?_
     refine oneP_ 9 (some 64) (b_ 13 1023) HT (fun K hK => ?_)
     refine goN_ Try.func85 #[.int .i64 0, .int .i64 a1, .int .i64 a2, .int .i64 a0, .int .i64 a1, .slice A3 l4.length c4] ?_
     with_reducible refine (spec_l3Above.calls _ _ _ _ _ _ _ _ _ _ _ ?side1 ?side2 A9.out).mono ?_
     (case side1 => exact cU_ (Kd.C_below HR4.out bel_))
     (case side2 => exact HC4.out)
     rintro e w3 ⟨v3, rfl, ho0, hb⟩
     refine ⟨_, rfl, ?_⟩
     have HO0 := a_ (Kd.R_lower (Kd.R_new' ho0 (Kd.R_lt (kdU_ HO_0.out))) (below_size bel_))
     replace HO_0 := a_ (Kd.R_elder' (kdU_ HO_0.out) (Kd.R_base ho0) hb)
     replace HB := s_ hb
     (try clear hb); (try clear ho0)
     obtain ⟨Ao1, co1, eo0⟩ := Kd.R_slice HO0.out
     (first | subst eo0 | (injection eo0 with f1_ f2_ f3_; have f4_ := f1_.symm; have f5_ := f3_.symm; clear f1_ f2_ f3_; subst f4_; subst f5_))
     refine hK.out _ _ trivial (fun hHeld => ?_)
     clear hK K
     refine normP_ (some 64) ?_
     refine oneP_ 10 (some 65) (b_ 13 2047) HT (fun K hK => ?_)
     refine goN_ Try.func82 #[.slice A0 y1.length c3, .slice Ao1 t5.length co1] ?_
     with_reducible refine (spec_l3Digests.calls _ _ _ _ _ _ _ _ _ ?side1 ?side2 ?side3 ?side4 A10.out).mono ?_
     (case side1 => exact cU_ (Kd.C_below HR611.out HB.out))
     (case side2 => exact HC611.out)
     (case side3 => exact cU_ (Kd.R_reads' HO0.out).2.2)
     (case side4 => exact (Kd.R_reads' HO0.out).2.1)
     rintro e w4 ⟨v4, rfl, ho0, hb⟩
     refine ⟨_, rfl, ?_⟩
     have HO3 := a_ (Kd.R_lower (Kd.R_new' (Kd.R_new' ho0 (Kd.R_lt (kdU_ HO_0.out))) (Kd.R_lt (kdU_ HO0.out))) (below_size bel_))
     replace HO_0 := a_ (Kd.R_elder' (kdU_ HO_0.out) (Kd.R_base ho0) hb)
     replace HO0 := a_ (Kd.R_elder' (kdU_ HO0.out) (Kd.R_base ho0) hb)
     replace HB := s_ hb
     (try clear hb); (try clear ho0)
     refine hK.out _ _ trivial (fun hHeld => ?_)
     clear hK K
     refine normP_ (some 65) ?_
     refine qP_ 11 10 13 4095 ?_
     refine qP_ 12 11 13 8191 ?_
     refine done_ (done_of HT.out (by kernel_rfl)) ?_
     try go_wp2
     go_ret2
     exact ⟨_, rfl_, uR_ (Kd.R_mono HO3.out (fun _ hk => trivial)), bel_⟩
end
section
def spec_l4Peaks.l0 : Nat → Int → Int → List (S29) → List ByteArray → Int → Int → Option (List ByteArray)
 | 0, _, _, _, _, _, _ => none
 | k + 1, x4, x5, x1, x2, x3, x0 => if x0 < (wrap64 ((x1.length : Int) - 1)) then (if 0 ≤ x0 then (if x0 < (x1.length : Int) then (if 0 ≤ (wrap64 (x0 + 1)) then (if (wrap64 (x0 + 1)) ≤ (x1.length : Int) then ((spec_PeaksRoot.f k (x1.drop ((wrap64 (x0 + 1)) : Int).toNat)).bind fun bt0 => ((spec_l1PairText.f k ((rd_T29 x1 x0).f0) ((rd_T29 x1 x0).f1) ((rd_T29 x1 x0).f2) ((rd_T29 x1 x0).f3) bt0.1 bt0.2.1 bt0.2.2.1 bt0.2.2.2).bind fun t1 => (if x2.length < 8796093022208 then ((some (x2 ++ [t1] : List ByteArray)).bind fun y0 => ((spec_l2Half.f k (wrap64 (x4 - x3))).bind fun t0 => (if x5 < (wrap64 (x3 + t0)) then (some y0) else (spec_l4Peaks.l0 k x4 x5 x1 y0 (wrap64 (x3 + t0)) (wrap64 (x0 + 1)))))) else (none)))) else (none)) else (none)) else (none)) else (none)) else (some x2)
def spec_l4Peaks.f (k : Nat) (a0 a1 : Int) (l2 : List (S29)) : Option (List ByteArray) := spec_l4Peaks.l0 k a0 a1 l2 (([] : List ByteArray)) 0 0
def spec_l4Peaks.T5 : TT_ := (true, [([], []), ([], []), ([], []), ([1, 2], [1, 2]), ([3], [3]), ([], []), ([], []), ([6], [6]), ([5, 7], [5, 7]), ([8], [8]), ([4, 9, 9], [4, 9]), ([10], [10]), ([0, 11, 10], [0, 11]), ([12, 12, 0, 1, 2, 3, 4, 5, 6, 7, 8, 9, 10, 11, 12], [0, 12])])
def spec_l4Peaks.B5 : List Nat := [0, 0, 0, 6, 14, 0, 0, 64, 224, 480, 1022, 2046, 4095, 8191]
theorem spec_l4Peaks.tab5 : rtab .any (opsOf Try.f49 5) = spec_l4Peaks.T5 := by kernel_rfl
theorem spec_l4Peaks.bits5 : waitsOk spec_l4Peaks.T5.2 spec_l4Peaks.B5 = true := by kernel_rfl
theorem spec_l4Peaks.calls (k : Nat) (a1 a0 : Int) (A5 : Option Addr) (c2 : Nat) (l2 : List (S29)) (r : List ByteArray) (w : World) (hr2 : Kd.C k29 w A5 l2.length l2) (hc2 : l2.length ≤ c2) (h : spec_l4Peaks.f k a1 a0 l2 = some r) :
  Calls Try.prog 49 #[.int .i64 a1, .int .i64 a0, .slice A5 l2.length c2] w fun e w' => ∃ v0_ : Value, e = .returned (v0_) ∧ Kd.R Kd.string 9 w' w.heap.size (fun _ => True) v0_ r ∧ Below w.heap.size w w' := by
 have hu29 := Try.underlying29
 have HR2 := a_ hr2
 have HC2 := a_ hc2
 clear hr2 hc2
 have HB := rB_ w
 have H := h
 unfold spec_l4Peaks.f at H
 clear h
 obtain ⟨y2, hy2⟩ : ∃ y_ : List ByteArray, y_ = (([] : List ByteArray)) := ⟨_, rfl⟩
 replace H : (spec_l4Peaks.l0 k a1 a0 l2 y2 0 0) = some r := rpl_ hy2 H
 have Ny1 := a_ hy2
 clear hy2
 have H' := a_ H
 clear H
 go_enter Try.func49, Try.ntmps49
 go_wp2_with (first | ((with_reducible refine gate_dst (N := 11) rfl ?_); refine Kd.R_lit Kd.string _ 9 ?hg (N := 11) ?hd (xs := ([] : List ByteArray)) (inner := []) (ok := fun _ => True) (okp := fun _ => True) ?hr ?hp (fun _ hk => hk) trivial (Below.refl _ _) (Nat.le_refl _) (by simp) ?_; (case hd => rfl); (case hg => rfl); (case hr => first | (go_simp; done) | (go_simp; rfl)); (case hp => exact (Reps.none _ _)); intro v4 w10 ho0 hb hg_ hnew_; clear hg_ hnew_; (first | rw [← Ny1.out] at ho0 | (simp only [Int.reduceToNat] at ho0; rw [← Ny1.out] at ho0)); have HO1 := a_ (Kd.R_lower ho0 (below_size bel_)); replace HB := s_ hb; clear hb ho0))
 go_loopg [7, 8, 9] k (fun kq v0 v2 v3 w' => ∃ (x2 : List ByteArray) (x1 x0 : Int), v2 = .int .i64 x1 ∧ v3 = .int .i64 x0 ∧ Aside0 (spec_l4Peaks.l0 kq a1 a0 l2 x2 x1 x0 = some r) ∧ Aside0 (kq ≤ k) ∧ Aside0 (Kd.R Kd.string 9 w' w.heap.size (fun _ => True) v0 x2) ∧ Aside0 (Below w.heap.size w w'))
 case atStart => exact ⟨(y2), (0), (0), rl_, rl_, H', ⟨Nat.le_refl _⟩, ⟨kdU_ HO1.out⟩, ⟨bel_⟩⟩
 case round =>
  clear H'
  (try clear c2)
  obtain ⟨x2, x1, x0, rfl, rfl, HA, HK1, HO_0, HB⟩ := hrel
  cases gk with
  | zero => exact absurd HA.out (by simp [spec_l4Peaks.l0])
  | succ k1 =>
   have H := HA.out
   clear HA
   simp only [spec_l4Peaks.l0] at H
   by_cases c6 : x0 < (wrap64 ((l2.length : Int) - 1))
   ·rw [if_pos c6] at H
    have c16 := decide_eq_true c6
    clear c6
    obtain ⟨c21, H⟩ := ifd_ H
    obtain ⟨c22, H⟩ := ifd_ H
    obtain ⟨ji9, hji9⟩ : ∃ j_ : Int, (wrap64 (x0 + 1)) = j_ := ⟨_, rfl⟩
    replace H : (if 0 ≤ (ji9) then (if (ji9) ≤ (l2.length : Int) then ((spec_PeaksRoot.f k1 (l2.drop ((ji9) : Int).toNat)).bind fun bt0 => ((spec_l1PairText.f k1 ((rd_T29 l2 x0).f0) ((rd_T29 l2 x0).f1) ((rd_T29 l2 x0).f2) ((rd_T29 l2 x0).f3) bt0.1 bt0.2.1 bt0.2.2.1 bt0.2.2.2).bind fun t1 => (if x2.length < 8796093022208 then ((some (x2 ++ [t1] : List ByteArray)).bind fun y1 => ((spec_l2Half.f k1 (wrap64 (a1 - x1))).bind fun t0 => (if a0 < (wrap64 (x1 + t0)) then (some y1) else (spec_l4Peaks.l0 k1 a1 a0 l2 y1 (wrap64 (x1 + t0)) ji9)))) else (none)))) else (none)) else (none)) = some r := by first | (rw [hji9] at H; exact H) | (simp only [hji9] at H ⊢; exact H)
    have hji9w : (IntKind.i64.wrap (x0 + 1)) = ji9 := (i64_w _).trans hji9
    obtain ⟨c10, H⟩ := ifn_ H
    have c17 := eq_true c10
    have c18 := decide_eq_true c10
    clear c10
    obtain ⟨c11, H⟩ := ifn_ H
    have c19 := eq_true c11
    have c20 := decide_eq_true c11
    clear c11
    obtain ⟨y0, hy3⟩ : ∃ y_ : List (S29), y_ = (l2.drop ((ji9) : Int).toNat) := ⟨_, rfl⟩
    replace H : ((spec_PeaksRoot.f k1 y0).bind fun bt0 => ((spec_l1PairText.f k1 ((rd_T29 l2 x0).f0) ((rd_T29 l2 x0).f1) ((rd_T29 l2 x0).f2) ((rd_T29 l2 x0).f3) bt0.1 bt0.2.1 bt0.2.2.1 bt0.2.2.2).bind fun t1 => (if x2.length < 8796093022208 then ((some (x2 ++ [t1] : List ByteArray)).bind fun y1 => ((spec_l2Half.f k1 (wrap64 (a1 - x1))).bind fun t0 => (if a0 < (wrap64 (x1 + t0)) then (some y1) else (spec_l4Peaks.l0 k1 a1 a0 l2 y1 (wrap64 (x1 + t0)) ji9)))) else (none)))) = some r := rpl_ hy3 H
    have Ny0 := a_ hy3
    clear hy3
    obtain ⟨⟨t2, t3, t4, t5⟩, A1, H⟩ := bnd_ H
    dsimp only at H
    obtain ⟨t1, A2, H⟩ := bnd_ H
    obtain ⟨c12, H⟩ := ifn_ H
    have LMc0 := a_ c12
    clear c12
    obtain ⟨y1, hy4⟩ : ∃ y_ : List ByteArray, y_ = (x2 ++ [t1]) := ⟨_, rfl⟩
    replace H : ((spec_l2Half.f k1 (wrap64 (a1 - x1))).bind fun t0 => (if a0 < (wrap64 (x1 + t0)) then (some y1) else (spec_l4Peaks.l0 k1 a1 a0 l2 y1 (wrap64 (x1 + t0)) ji9))) = some r := rpl_ hy4 H
    have Ny2 := a_ hy4
    clear hy4
    obtain ⟨t0, A3, H⟩ := bnd_ H
    by_cases c0 : a0 < (wrap64 (x1 + t0))
    ·rw [if_pos c0] at H
     have c15 := decide_eq_true c0
     clear c0
     obtain rfl := Option.some.inj H
     try go_wp2
     replace HO_0 := a_ (Kd.R_drew HO_0.out)
     replace HB := a_ (below_drew1 HB.out)
     have p0 : 0 ≤ (x0 : Int) := ofd_
     have q0 : x0 < (l2.length : Int) := ofd_
     obtain ⟨ad0, e0, hx0, hx1, hx2, hx3⟩ := at_T29 HR2.out x0 p0 q0
     have hw3 := hx3
     have hw2 := hx2
     have hw1 := hx1
     have hw0 := hx0
     cases e0
     replace hx0 := pc_ HB.out hx0
     replace hx1 := pc_ HB.out hx1
     replace hx2 := pc_ HB.out hx2
     replace hx3 := pc_ HB.out hx3
     replace p0 := eq_true p0
     replace q0 := eq_true q0
     have q1 : ((ji9) : Int) ≤ ((l2.length : Int) : Int) := ofd_
     obtain ⟨i018, hi0, _, hsz18, _⟩ := info_parts info29
     have hroom18 : l2.length ≤ c2 := HC2.out
     have hC18 : Kd.C k29 _ (some ad0) l2.length l2 := HR2.out
     have q3 : (0 : Int) ≤ ((ji9) : Int) := ofd_
     have hcut18 := cut_from (P := Try.prog) 49 29 .i64 Try.underlying49 hi0 4 hsz18 (some ad0) l2.length c2 (ji9) q3 q1
     have hr18 := Kd.C_drop (m := ((ji9) : Int).toNat) (c := c2) hC18 (by omega) hroom18
     obtain ⟨A4, hA18⟩ : ∃ A0, A0 = (if c2 = ((ji9) : Int).toNat then (some ad0) else ((some ad0) : Option Addr).map (·.add (((ji9) : Int).toNat * 4))) := ⟨_, rfl⟩
     obtain ⟨c13, hc18⟩ : ∃ c1, c1 = c2 - ((ji9) : Int).toNat := ⟨_, rfl⟩
     have hy0 : y0.length = l2.length - ((ji9) : Int).toNat := (by rw [Ny0.out, List.length_drop] <;> omega)
     rw [show (l2).drop ((ji9) : Int).toNat = y0 from Ny0.out.symm] at hr18
     replace hr18 : Kd.C k29 _ A4 y0.length y0 := (by rw [hA18]; exact hr18)
     rw [← hy0, ← hA18, ← hc18] at hcut18
     have HR730 := a_ hr18
     have HC730 := a_ (show y0.length ≤ c13 from by rw [hy0, hc18]; exact Nat.sub_le_sub_right hroom18 _)
     clear hr18 hC18 hroom18 hi0 hsz18 hc18
     have KY18 := a_ hy0
     have KA18 := a_ hA18
     clear hy0 hA18
     replace q1 := eq_true q1
     refine start_ (n := 14) (S := fun w' => w'.cell? (ad0.add ((x0).toNat * 4)) = some (.int .u64 ((rd_T29 l2 x0).f0)) ∧ w'.cell? ⟨(ad0.add ((x0).toNat * 4)).block, (ad0.add ((x0).toNat * 4)).off + 1, none⟩ = some (.int .u64 ((rd_T29 l2 x0).f1)) ∧ w'.cell? ⟨(ad0.add ((x0).toNat * 4)).block, (ad0.add ((x0).toNat * 4)).off + 2, none⟩ = some (.int .u64 ((rd_T29 l2 x0).f2)) ∧ w'.cell? ⟨(ad0.add ((x0).toNat * 4)).block, (ad0.add ((x0).toNat * 4)).off + 3, none⟩ = some (.int .u64 ((rd_T29 l2 x0).f3))) (ds := []) #[false, false, false, false, false, false, false, false, false, false, false, false, false, false] (by kernel_rfl) rfl rfl ⟨(pc_ HB.out hw0), (pc_ HB.out hw1), (pc_ HB.out hw2), (pc_ HB.out hw3)⟩ (fun hHeld => ?_); refine with_tabW spec_l4Peaks.tab5 spec_l4Peaks.bits5 (fun HT HW_ => ?_)
     generalize wr.drew = w1 at HO_0 HB HR730 hx0 hx1 hx2 hx3 hHeld ⊢
     refine qP_ 0 17 14 1 ?_
     refine qP_ 1 18 14 3 ?_
     refine qP_ 2 19 14 7 ?_
     refine qP_ 3 20 14 15 ?_
     refine qP_ 5 22 14 47 ?_
     refine qP_ 6 23 14 111 ?_
     refine qP_ 7 24 14 239 ?_
     refine qP_ 8 25 14 495 ?_
     refine qT_ 4 21 14 511 ?_
     refine oneP_ 9 (some 26) (b_ 14 1023) HT (fun K hK => ?_)
     refine goN_ Try.func73 #[.slice A4 y0.length c13] ?_
     with_reducible refine (spec_PeaksRoot.calls _ _ _ _ _ _ _ _ _ ?side1 ?side2 A1.out).mono ?_
     (case side1 => exact cU_ (Kd.C_below HR730.out HB.out))
     (case side2 => exact HC730.out)
     rintro e w2 ⟨rfl, hb⟩
     refine ⟨_, rfl, ?_⟩
     replace HO_0 := rb_ HO_0.out hb
     replace HB := s_ hb
     (try clear hb)
     refine hK.out _ _ ⟨(pc_ HB.out hw0), (pc_ HB.out hw1), (pc_ HB.out hw2), (pc_ HB.out hw3)⟩ (fun hHeld => ?_)
     clear hK K
     refine normP_ (some 26) ?_
     refine oneP_ 10 (some 27) (b_ 14 2047) HT (fun K hK => ?_)
     refine goN_ Try.func90 #[.agg #[.int .u64 ((rd_T29 l2 x0).f0), .int .u64 ((rd_T29 l2 x0).f1), .int .u64 ((rd_T29 l2 x0).f2), .int .u64 ((rd_T29 l2 x0).f3)], .agg #[.int .u64 t2, .int .u64 t3, .int .u64 t4, .int .u64 t5]] ?_
     with_reducible refine (spec_l1PairText.calls _ _ _ _ _ _ _ _ _ _ _ A2.out).mono ?_
     rintro e w3 ⟨rfl, hb⟩
     refine ⟨_, rfl, ?_⟩
     replace HO_0 := rb_ HO_0.out hb
     replace HB := s_ hb
     (try clear hb)
     refine hK.out _ _ ⟨(pc_ HB.out hw0), (pc_ HB.out hw1), (pc_ HB.out hw2), (pc_ HB.out hw3)⟩ (fun hHeld => ?_)
     clear hK K
     refine normP_ (some 27) ?_
     refine oneP_ 11 (some 28) (b_ 14 4095) HT (fun K hK => ?_)
     refine value_ (w1 := ?_) (v := ?_) (by rfl) rfl ?_ ?_
     rotate_left 2
     ·go_simp
      constructor
      ·rfl
      ·rfl
     refine hK.out _ _ ⟨(World.cell?_alloc_lt _ _ _ (World.block_lt_of_cell? _ _ ((pc_ HB.out hw0)))).trans ((pc_ HB.out hw0)), (World.cell?_alloc_lt _ _ _ (World.block_lt_of_cell? _ _ ((pc_ HB.out hw1)))).trans ((pc_ HB.out hw1)), (World.cell?_alloc_lt _ _ _ (World.block_lt_of_cell? _ _ ((pc_ HB.out hw2)))).trans ((pc_ HB.out hw2)), (World.cell?_alloc_lt _ _ _ (World.block_lt_of_cell? _ _ ((pc_ HB.out hw3)))).trans ((pc_ HB.out hw3))⟩ (fun hHeld => ?_)
     clear hK K
     refine normP_ (some 28) ?_
     refine oneP_ 12 (some 29) (b_ 14 8191) HT (fun K hK => ?_)
     refine Kd.R_append_step Kd.string (w0 := w) w.heap.size (by rfl) (.tmp 17) (.tmp 28) 61 9 (.string ⟨#[]⟩) 16 rfl Try.underlying61 info9 rfl (by decide) (by omega) u7 x2 t1 [.string t1] (fun _ => True) (fun _ => False) rfl rfl ?aP (fun _ hk => hk.elim) ?aF ?aO ?aB ?aS ?aL ?_
     (case aP => exact rfl)
     (case aB => exact bel_)
     (case aF => exact (fun _ _ => trivial))
     (case aO => exact (kdU_ HO_0.out))
     (case aS => exact (below_size bel_))
     (case aL => have := LMc0.out; omega)
     intro v1 w4 ho hb hg hat
     rw [← Ny2.out] at ho
     replace HB := a_ (hb)
     have HO0 := a_ (ho)
     clear HO_0
     clear ho hb hg hat
     refine hK.out _ _ ⟨(pc_ HB.out hw0), (pc_ HB.out hw1), (pc_ HB.out hw2), (pc_ HB.out hw3)⟩ (fun hHeld => ?_)
     clear hK K
     refine normP_ (some 29) ?_
     refine qP_ 13 7 14 16383 ?_
     refine done_ (done_of HT.out (by kernel_rfl)) ?_
     try go_wp2_with (first | (refine gcD_ 93 33 Try.func93 (spec_l2Half.calls _ _ _ _ A3.out) ?_; intro nd))
     go_ret
     exact ⟨_, by first | rfl | (simp [errW_none, errW_some] <;> rfl) | (simp only [← hji9]; first | rfl | (simp [errW_none, errW_some] <;> rfl)) | (simp [*, errW_none, errW_some] <;> rfl), uR_ HO0.out, bel_⟩
    ·rw [if_neg c0] at H
     have c15 := decide_eq_false c0
     clear c0
     have H' := a_ H
     clear H
     try go_wp2
     replace HO_0 := a_ (Kd.R_drew HO_0.out)
     replace HB := a_ (below_drew1 HB.out)
     have p0 : 0 ≤ (x0 : Int) := ofd_
     have q0 : x0 < (l2.length : Int) := ofd_
     obtain ⟨ad0, e0, hx0, hx1, hx2, hx3⟩ := at_T29 HR2.out x0 p0 q0
     have hw3 := hx3
     have hw2 := hx2
     have hw1 := hx1
     have hw0 := hx0
     cases e0
     replace hx0 := pc_ HB.out hx0
     replace hx1 := pc_ HB.out hx1
     replace hx2 := pc_ HB.out hx2
     replace hx3 := pc_ HB.out hx3
     replace p0 := eq_true p0
     replace q0 := eq_true q0
     have q2 : ((ji9) : Int) ≤ ((l2.length : Int) : Int) := ofd_
     obtain ⟨i023, hi1, _, hsz23, _⟩ := info_parts info29
     have hroom23 : l2.length ≤ c2 := HC2.out
     have hC23 : Kd.C k29 _ (some ad0) l2.length l2 := HR2.out
     have q4 : (0 : Int) ≤ ((ji9) : Int) := ofd_
     have hcut23 := cut_from (P := Try.prog) 49 29 .i64 Try.underlying49 hi1 4 hsz23 (some ad0) l2.length c2 (ji9) q4 q2
     have hr23 := Kd.C_drop (m := ((ji9) : Int).toNat) (c := c2) hC23 (by omega) hroom23
     obtain ⟨A6, hA23⟩ : ∃ A0, A0 = (if c2 = ((ji9) : Int).toNat then (some ad0) else ((some ad0) : Option Addr).map (·.add (((ji9) : Int).toNat * 4))) := ⟨_, rfl⟩
     obtain ⟨c14, hc23⟩ : ∃ c1, c1 = c2 - ((ji9) : Int).toNat := ⟨_, rfl⟩
     have hy1 : y0.length = l2.length - ((ji9) : Int).toNat := (by rw [Ny0.out, List.length_drop] <;> omega)
     rw [show (l2).drop ((ji9) : Int).toNat = y0 from Ny0.out.symm] at hr23
     replace hr23 : Kd.C k29 _ A6 y0.length y0 := (by rw [hA23]; exact hr23)
     rw [← hy1, ← hA23, ← hc23] at hcut23
     have HR730 := a_ hr23
     have HC730 := a_ (show y0.length ≤ c14 from by rw [hy1, hc23]; exact Nat.sub_le_sub_right hroom23 _)
     clear hr23 hC23 hroom23 hi1 hsz23 hc23
     have KY23 := a_ hy1
     have KA23 := a_ hA23
     clear hy1 hA23
     replace q2 := eq_true q2
     refine start_ (n := 14) (S := fun w' => w'.cell? (ad0.add ((x0).toNat * 4)) = some (.int .u64 ((rd_T29 l2 x0).f0)) ∧ w'.cell? ⟨(ad0.add ((x0).toNat * 4)).block, (ad0.add ((x0).toNat * 4)).off + 1, none⟩ = some (.int .u64 ((rd_T29 l2 x0).f1)) ∧ w'.cell? ⟨(ad0.add ((x0).toNat * 4)).block, (ad0.add ((x0).toNat * 4)).off + 2, none⟩ = some (.int .u64 ((rd_T29 l2 x0).f2)) ∧ w'.cell? ⟨(ad0.add ((x0).toNat * 4)).block, (ad0.add ((x0).toNat * 4)).off + 3, none⟩ = some (.int .u64 ((rd_T29 l2 x0).f3))) (ds := []) #[false, false, false, false, false, false, false, false, false, false, false, false, false, false] (by kernel_rfl) rfl rfl ⟨(pc_ HB.out hw0), (pc_ HB.out hw1), (pc_ HB.out hw2), (pc_ HB.out hw3)⟩ (fun hHeld => ?_); refine with_tabW spec_l4Peaks.tab5 spec_l4Peaks.bits5 (fun HT HW_ => ?_)
     generalize wr.drew = w5 at HO_0 HB HR730 hx0 hx1 hx2 hx3 hHeld ⊢
     refine qP_ 0 17 14 1 ?_
     refine qP_ 1 18 14 3 ?_
     refine qP_ 2 19 14 7 ?_
     refine qP_ 3 20 14 15 ?_
     refine qP_ 5 22 14 47 ?_
     refine qP_ 6 23 14 111 ?_
     refine qP_ 7 24 14 239 ?_
     refine qP_ 8 25 14 495 ?_
     refine qT_ 4 21 14 511 ?_
     refine oneP_ 9 (some 26) (b_ 14 1023) HT (fun K hK => ?_)
     refine goN_ Try.func73 #[.slice A6 y0.length c14] ?_
     with_reducible refine (spec_PeaksRoot.calls _ _ _ _ _ _ _ _ _ ?side1 ?side2 A1.out).mono ?_
     (case side1 => exact cU_ (Kd.C_below HR730.out HB.out))
     (case side2 => exact HC730.out)
     rintro e w6 ⟨rfl, hb⟩
     refine ⟨_, rfl, ?_⟩
     replace HO_0 := rb_ HO_0.out hb
     replace HB := s_ hb
     (try clear hb)
     refine hK.out _ _ ⟨(pc_ HB.out hw0), (pc_ HB.out hw1), (pc_ HB.out hw2), (pc_ HB.out hw3)⟩ (fun hHeld => ?_)
     clear hK K
     refine normP_ (some 26) ?_
     refine oneP_ 10 (some 27) (b_ 14 2047) HT (fun K hK => ?_)
     refine goN_ Try.func90 #[.agg #[.int .u64 ((rd_T29 l2 x0).f0), .int .u64 ((rd_T29 l2 x0).f1), .int .u64 ((rd_T29 l2 x0).f2), .int .u64 ((rd_T29 l2 x0).f3)], .agg #[.int .u64 t2, .int .u64 t3, .int .u64 t4, .int .u64 t5]] ?_
     with_reducible refine (spec_l1PairText.calls _ _ _ _ _ _ _ _ _ _ _ A2.out).mono ?_
     rintro e w7 ⟨rfl, hb⟩
     refine ⟨_, rfl, ?_⟩
     replace HO_0 := rb_ HO_0.out hb
     replace HB := s_ hb
     (try clear hb)
     refine hK.out _ _ ⟨(pc_ HB.out hw0), (pc_ HB.out hw1), (pc_ HB.out hw2), (pc_ HB.out hw3)⟩ (fun hHeld => ?_)
     clear hK K
     refine normP_ (some 27) ?_
     refine oneP_ 11 (some 28) (b_ 14 4095) HT (fun K hK => ?_)
     refine value_ (w1 := ?_) (v := ?_) (by rfl) rfl ?_ ?_
     rotate_left 2
     ·go_simp
      constructor
      ·rfl
      ·rfl
     refine hK.out _ _ ⟨(World.cell?_alloc_lt _ _ _ (World.block_lt_of_cell? _ _ ((pc_ HB.out hw0)))).trans ((pc_ HB.out hw0)), (World.cell?_alloc_lt _ _ _ (World.block_lt_of_cell? _ _ ((pc_ HB.out hw1)))).trans ((pc_ HB.out hw1)), (World.cell?_alloc_lt _ _ _ (World.block_lt_of_cell? _ _ ((pc_ HB.out hw2)))).trans ((pc_ HB.out hw2)), (World.cell?_alloc_lt _ _ _ (World.block_lt_of_cell? _ _ ((pc_ HB.out hw3)))).trans ((pc_ HB.out hw3))⟩ (fun hHeld => ?_)
     clear hK K
     refine normP_ (some 28) ?_
     refine oneP_ 12 (some 29) (b_ 14 8191) HT (fun K hK => ?_)
     refine Kd.R_append_step Kd.string (w0 := w) w.heap.size (by rfl) (.tmp 17) (.tmp 28) 61 9 (.string ⟨#[]⟩) 16 rfl Try.underlying61 info9 rfl (by decide) (by omega) u7 x2 t1 [.string t1] (fun _ => True) (fun _ => False) rfl rfl ?aP (fun _ hk => hk.elim) ?aF ?aO ?aB ?aS ?aL ?_
     (case aP => exact rfl)
     (case aB => exact bel_)
     (case aF => exact (fun _ _ => trivial))
     (case aO => exact (kdU_ HO_0.out))
     (case aS => exact (below_size bel_))
     (case aL => have := LMc0.out; omega)
     intro v1 w9 ho hb hg hat
     rw [← Ny2.out] at ho
     replace HB := a_ (hb)
     have HO0 := a_ (ho)
     clear HO_0
     clear ho hb hg hat
     refine hK.out _ _ ⟨(pc_ HB.out hw0), (pc_ HB.out hw1), (pc_ HB.out hw2), (pc_ HB.out hw3)⟩ (fun hHeld => ?_)
     clear hK K
     refine normP_ (some 29) ?_
     refine qP_ 13 7 14 16383 ?_
     refine done_ (done_of HT.out (by kernel_rfl)) ?_
     try go_wp2_with (first | (refine gcD_ 93 33 Try.func93 (spec_l2Half.calls _ _ _ _ A3.out) ?_; intro nd))
     go_roundg k1
     case measure => have := HK1.out; omega
     case rel => exact ⟨(y1), (wrap64 (x1 + t0)), (ji9), rl_, (by first | rfl | (simp; done) | (simp only [← hji9] <;> (first | rfl | simp)) | (simp [*]; done)), H', ⟨by have := HK1.out; omega⟩, ⟨kdU_ HO0.out⟩, ⟨bel_⟩⟩
   ·rw [if_neg c6] at H
    have c16 := decide_eq_false c6
    clear c6
    obtain rfl := Option.some.inj H
    go_wp2
    go_ret
    exact ⟨_, rfl_, uR_ HO_0.out, bel_⟩
end
end
end Go.Proofs.Ytflckegggopdnaa.B
