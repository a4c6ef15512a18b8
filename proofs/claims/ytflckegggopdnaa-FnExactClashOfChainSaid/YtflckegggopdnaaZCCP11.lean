/- Texts that this claim's law leans on, without what nothing names. What each says stands at its theorems; conditions stand in them. (Put together by the session's program shake.py; Lean checks it.) -/
import Derived.Test.YtflckegggopdnaaZCCP0
import Derived.Test.YtflckegggopdnaaZCCP2
import Derived.Test.YtflckegggopdnaaZCCP10
import Derived.Test.YtflckegggopdnaaZCCP5
import Derived.Test.YtflckegggopdnaaZCCP6
import Derived.Test.YtflckegggopdnaaZCCP3
set_option linter.unusedVariables false
set_option maxHeartbeats 8000000
set_option maxRecDepth 100000
set_option linter.unusedSimpArgs false
namespace Go.Proofs.Ytflckegggopdnaa.B
section
open Go.RowKit Go.Proofs.YtflckegggopdnaaW
section
def impl_ChainEnd.l0 : Nat → List (S51) → Int → Int → Int → Int → Int → Int → Int → Option (Int × Int × Int × Int × Int × Bool)
 | 0, _, _, _, _, _, _, _, _ => none
 | k + 1, x1, x2, x0, x3, x4, x5, x6, x7 => if x0 < x2 then (if 0 ≤ x0 then (if x0 < (x1.length : Int) then ((impl_GrowthCheck.f k x3 x4 x5 x6 x7 ((rd_T51 x1 x0).f0.f0) ((rd_T51 x1 x0).f0.f1.f0) ((rd_T51 x1 x0).f0.f1.f1) ((rd_T51 x1 x0).f0.f1.f2) ((rd_T51 x1 x0).f0.f1.f3) ((rd_T51 x1 x0).f1)).bind fun t0 => (if t0 = 0 then (impl_ChainEnd.l0 k x1 x2 (wrap64 (x0 + 1)) ((rd_T51 x1 x0).f0.f0) ((rd_T51 x1 x0).f0.f1.f0) ((rd_T51 x1 x0).f0.f1.f1) ((rd_T51 x1 x0).f0.f1.f2) ((rd_T51 x1 x0).f0.f1.f3)) else (some (0, 0, 0, 0, 0, false)))) else (none)) else (none)) else (some (x3, x4, x5, x6, x7, true))
def impl_ChainEnd.f (k : Nat) (a0 a1 a2 a3 a4 : Int) (l1 : List (S51)) : Option (Int × Int × Int × Int × Int × Bool) := if (l1.length : Int) > 256 then (some (0, 0, 0, 0, 0, false)) else (impl_ChainEnd.l0 k l1 (l1.length : Int) 0 a0 a1 a2 a3 a4)
theorem impl_ChainEnd.calls (k : Nat) (a0 a1 a2 a3 a4 : Int) (A1 : Option Addr) (c11 : Nat) (l1 : List (S51)) (r0 r1 r2 r3 r4 : Int) (r5 : Bool) (w : World) (hr1 : Kd.C k51 w A1 l1.length l1) (hc1 : l1.length ≤ c11) (h : impl_ChainEnd.f k a0 a1 a2 a3 a4 l1 = some (r0, r1, r2, r3, r4, r5)) :
  Calls Try.prog 14 #[.agg #[.int .i64 a0, .int .u64 a1, .int .u64 a2, .int .u64 a3, .int .u64 a4], .slice A1 l1.length c11] w fun e w' => e = .returned (.tuple #[.agg #[.int .i64 r0, .int .u64 r1, .int .u64 r2, .int .u64 r3, .int .u64 r4], .bool r5]) ∧ Below w.heap.size w w' := by
 have hu31 := Try.underlying31
 have hu51 := Try.underlying51
 have HR1 := a_ hr1
 have HC1 := a_ hc1
 clear hr1 hc1
 have HB := rB_ w
 have H := h
 unfold impl_ChainEnd.f at H
 clear h
 by_cases c3 : (l1.length : Int) > 256
 ·rw [if_pos c3] at H
  have c13 : decide (256 < (l1.length : Int)) = true := decide_eq_true c3
  have c14 : decide (256 < l1.length) = true := decide_eq_true (by omega)
  clear c3
  simp only [Option.some.injEq, Prod.mk.injEq] at H
  obtain ⟨rfl, rfl, rfl, rfl, rfl, rfl⟩ := H
  go_enter Try.func14, Try.ntmps14
  go_wp2_with (first | (refine bx_ 2 #[.int .i64 a0, .int .u64 a1, .int .u64 a2, .int .u64 a3, .int .u64 a4] 31 ?_; intro gb1 w5 hg hb BK0 GW0; replace HB := s_ hb; clear hb hg) | (refine bx_ 4 #[.int .i64 0, .int .u64 0, .int .u64 0, .int .u64 0, .int .u64 0] 31 ?_; intro gb0 w7 hg hb BK1 GW1; replace HB := s_ hb; obtain ⟨NB0, NB1⟩ := ne2_ BK0.out hg; replace BK0 := bb_ BK0.out hb; clear hb hg; have hnb17 := NB1.out; have hnc17 := NB0.out; obtain ⟨z10, z11, z12, z13, z14, f10, f11, f12, f13, f14⟩ := cz5_ BK1.out))
  refine bodyPost_ret (results_ct rfl _ _ gb0 31 #[.int .i64 0, .int .u64 0, .int .u64 0, .int .u64 0, .int .u64 0] (0, 0) _ rfl (blkF_ BK1.out) Try.underlying31 rfl (by kernel_rfl)) rfl ?_
  exact ⟨rfl_, bel_⟩
 ·rw [if_neg c3] at H
  have c13 : decide (256 < (l1.length : Int)) = false := decide_eq_false c3
  have c14 : decide (256 < l1.length) = false := decide_eq_false (by omega)
  clear c3
  have H' := a_ H
  clear H
  go_enter Try.func14, Try.ntmps14
  go_wp2_with (first | (refine bx_ 2 #[.int .i64 a0, .int .u64 a1, .int .u64 a2, .int .u64 a3, .int .u64 a4] 31 ?_; intro gb1 w8 hg hb BK0 GW0; replace HB := s_ hb; clear hb hg) | (refine bx_ 4 #[.int .i64 0, .int .u64 0, .int .u64 0, .int .u64 0, .int .u64 0] 31 ?_; intro gb0 w9 hg hb BK1 GW1; replace HB := s_ hb; obtain ⟨NB0, NB1⟩ := ne2_ BK0.out hg; replace BK0 := bb_ BK0.out hb; clear hb hg; have hnb0 := NB0.out; have hnc0 := NB1.out; obtain ⟨z0, z1, z2, z3, z4, f0, f1, f2, f3, f4⟩ := cz5_ BK0.out) | (refine bx_ 6 #[.int .i64 0, .int .u64 0, .int .u64 0, .int .u64 0, .int .u64 0] 31 ?_; intro gb2 w1 hg hb BK2 GW3; replace HB := s_ hb; obtain ⟨NB2, NB4⟩ := ne2_ BK0.out hg; replace BK0 := bb_ BK0.out hb; obtain ⟨NB3, NB5⟩ := ne2_ BK1.out hg; replace BK1 := bb_ BK1.out hb; clear hb hg; have hnb1 := NB4.out; have hnc1 := NB2.out; have hnb2 := NB5.out; have hnc2 := NB3.out; obtain ⟨z5, z6, z7, z8, z9, f5, f6, f7, f8, f9⟩ := cz5_ BK2.out))
  go_loopg [16] k (fun kq v0 w' => ∃ (x0 x6 x7 x8 x9 x10 x1 x2 x3 x4 x5 : Int), v0 = .int .i64 x0 ∧ Aside0 (impl_ChainEnd.l0 kq l1 (l1.length : Int) x0 x1 x2 x3 x4 x5 = some (r0, r1, r2, r3, r4, r5)) ∧ Aside0 (kq ≤ k) ∧ Aside0 (w'.heap[gb1]? = some (.cells #[.int .i64 a0, .int .u64 a1, .int .u64 a2, .int .u64 a3, .int .u64 a4] 31 (0, 0))) ∧ Aside0 (w'.heap[gb0]? = some (.cells #[.int .i64 x6, .int .u64 x7, .int .u64 x8, .int .u64 x9, .int .u64 x10] 31 (0, 0))) ∧ Aside0 (w'.heap[gb2]? = some (.cells #[.int .i64 x1, .int .u64 x2, .int .u64 x3, .int .u64 x4, .int .u64 x5] 31 (0, 0))) ∧ Aside0 (Below w.heap.size w w'))
  case atStart => exact ⟨(0), (0), (0), (0), (0), (0), (a0), (a1), (a2), (a3), (a4), rl_, H', ⟨Nat.le_refl _⟩, ⟨blkU_ BK0.out⟩, ⟨blkU_ BK1.out⟩, ⟨blkF_ BK2.out⟩, ⟨bel_⟩⟩
  case round =>
   clear H'
   (try clear c11); (try clear c3); (try clear c13); (try clear c14); (try clear z0 z1 z2 z3 z4); (try clear z5 z6 z7 z8 z9); (try clear z10 z11 z12 z13 z14); (try clear f0 f1 f2 f3 f4); (try clear f5 f6 f7 f8 f9); (try clear f10 f11 f12 f13 f14)
   obtain ⟨x0, x6, x7, x8, x9, x10, x1, x2, x3, x4, x5, rfl, HA, HK1, BK0, BK1, BK2, HB⟩ := hrel
   cases gk with
   | zero => exact absurd HA.out (by simp [impl_ChainEnd.l0])
   | succ k1 =>
    have H := HA.out
    clear HA
    simp only [impl_ChainEnd.l0] at H
    by_cases c1 : x0 < (l1.length : Int)
    ·rw [if_pos c1] at H
     have c15 := decide_eq_true c1
     clear c1
     obtain ⟨c18, H⟩ := ifd_ H
     obtain ⟨c19, H⟩ := ifd_ H
     obtain ⟨t0, A2, H⟩ := bnd_ H
     by_cases c0 : t0 = 0
     ·rw [if_pos c0] at H
      have c16 := beq_iff_eq.mpr c0
      have c17 := bne_eq_false_iff_eq.mpr c0
      clear c0
      have H' := a_ H
      clear H
      have p0 : 0 ≤ (x0 : Int) := ofd_
      have q0 : x0 < (l1.length : Int) := ofd_
      obtain ⟨ad0, A0, c12, e0, hx0, hx1, hx2, hx3, hx4, hx5, hl0, hi0⟩ := at_T51 HR1.out x0 p0 q0
      cases e0
      replace hx0 := pc_ HB.out hx0
      replace hx1 := pc_ HB.out hx1
      replace hx2 := pc_ HB.out hx2
      replace hx3 := pc_ HB.out hx3
      replace hx4 := pc_ HB.out hx4
      replace hx5 := pc_ HB.out hx5
      have HR498_5 := a_ hi0
      have HC498_5 := a_ hl0
      clear hi0 hl0
      replace p0 := eq_true p0
      replace q0 := eq_true q0
      go_wp2_with (first | (refine bx_ 8 #[.int .i64 0, .int .u64 0, .int .u64 0, .int .u64 0, .int .u64 0, .slice none 0 0] 51 ?_; intro gb3 w2 hg hb BK3 GW2; replace HB := s_ hb; obtain ⟨NB6, NB9⟩ := ne2_ BK0.out hg; replace BK0 := bb_ BK0.out hb; obtain ⟨NB7, NB10⟩ := ne2_ BK1.out hg; replace BK1 := bb_ BK1.out hb; obtain ⟨NB8, NB11⟩ := ne2_ BK2.out hg; replace BK2 := bb_ BK2.out hb; clear hb hg; have hnb3 := NB9.out; have hnc3 := NB6.out; have hnb4 := NB10.out; have hnc4 := NB7.out; have hnb5 := NB11.out; have hnc5 := NB8.out; obtain ⟨z15, z16, z17, z18, z19, z20, f15, f16, f17, f18, f19, f20⟩ := cz6_ BK3.out; have hnb6 := NB4.out; have hnc6 := NB2.out; have hnb7 := NB5.out; have hnc7 := NB3.out; obtain ⟨z21, z22, z23, z25, z27, f21, f22, f23, f24, f25⟩ := cz5_ BK2.out) | (refine gcB_ 33 25 Try.func33 (impl_GrowthCheck.calls _ _ _ _ _ _ _ _ _ _ _ _ _ _ _ _ ?side1 ?side2 A2.out) ?_; (case side1 => exact Kd.C_below HR498_5.out bel_); (case side2 => exact HC498_5.out); intro w3 hb; replace BK0 := bb_ BK0.out hb; replace BK1 := bb_ BK1.out hb; replace BK2 := bb_ BK2.out hb; replace BK3 := blkPB_ (cs := #[.int .i64 ((rd_T51 l1 x0).f0.f0), .int .u64 ((rd_T51 l1 x0).f0.f1.f0), .int .u64 ((rd_T51 l1 x0).f0.f1.f1), .int .u64 ((rd_T51 l1 x0).f0.f1.f2), .int .u64 ((rd_T51 l1 x0).f0.f1.f3), .slice A0 ((rd_T51 l1 x0).f1).length c12]) BK3.out hb; replace HB := s_ hb; clear hb; obtain ⟨z28, z30, z32, z33, z34, z35, f26, f27, f28, f29, f30, f31⟩ := cz6_ BK3.out; obtain ⟨z36, z37, z38, z39, z40, f32, f33, f34, f35, f36⟩ := cz5_ BK2.out))
      go_roundg k1
      case measure => have := HK1.out; omega
      case rel => exact ⟨(wrap64 (x0 + 1)), (x6), (x7), (x8), (x9), (x10), ((rd_T51 l1 x0).f0.f0), ((rd_T51 l1 x0).f0.f1.f0), ((rd_T51 l1 x0).f0.f1.f1), ((rd_T51 l1 x0).f0.f1.f2), ((rd_T51 l1 x0).f0.f1.f3), rl_, H', ⟨by have := HK1.out; omega⟩, ⟨blkU_ BK0.out⟩, ⟨blkU_ BK1.out⟩, ⟨blkF_ BK2.out⟩, ⟨bel_⟩⟩
     ·rw [if_neg c0] at H
      have c16 := beq_eq_false_iff_ne.mpr c0
      have c17 := bne_iff_ne.mpr c0
      simp only [Option.some.injEq, Prod.mk.injEq] at H
      obtain ⟨rfl, rfl, rfl, rfl, rfl, rfl⟩ := H
      have p0 : 0 ≤ (x0 : Int) := ofd_
      have q0 : x0 < (l1.length : Int) := ofd_
      obtain ⟨ad0, A0, c12, e0, hx0, hx1, hx2, hx3, hx4, hx5, hl0, hi0⟩ := at_T51 HR1.out x0 p0 q0
      cases e0
      replace hx0 := pc_ HB.out hx0
      replace hx1 := pc_ HB.out hx1
      replace hx2 := pc_ HB.out hx2
      replace hx3 := pc_ HB.out hx3
      replace hx4 := pc_ HB.out hx4
      replace hx5 := pc_ HB.out hx5
      have HR498_5 := a_ hi0
      have HC498_5 := a_ hl0
      clear hi0 hl0
      replace p0 := eq_true p0
      replace q0 := eq_true q0
      go_wp2_with (first | (refine bx_ 8 #[.int .i64 0, .int .u64 0, .int .u64 0, .int .u64 0, .int .u64 0, .slice none 0 0] 51 ?_; intro gb3 w4 hg hb BK3 GW2; replace HB := s_ hb; obtain ⟨NB6, NB9⟩ := ne2_ BK0.out hg; replace BK0 := bb_ BK0.out hb; obtain ⟨NB7, NB10⟩ := ne2_ BK1.out hg; replace BK1 := bb_ BK1.out hb; obtain ⟨NB8, NB11⟩ := ne2_ BK2.out hg; replace BK2 := bb_ BK2.out hb; clear hb hg; have hnb8 := NB9.out; have hnc8 := NB6.out; have hnb9 := NB10.out; have hnc9 := NB7.out; have hnb10 := NB11.out; have hnc10 := NB8.out; obtain ⟨z41, z43, z44, z45, z46, z47, f37, f38, f39, f40, f41, f42⟩ := cz6_ BK3.out; have hnb11 := NB4.out; have hnc11 := NB2.out; have hnb12 := NB5.out; have hnc12 := NB3.out; obtain ⟨z48, z49, z50, z52, z53, f43, f44, f45, f46, f47⟩ := cz5_ BK2.out) | (refine gcB_ 33 25 Try.func33 (impl_GrowthCheck.calls _ _ _ _ _ _ _ _ _ _ _ _ _ _ _ _ ?side1 ?side2 A2.out) ?_; (case side1 => exact Kd.C_below HR498_5.out bel_); (case side2 => exact HC498_5.out); intro w6 hb; replace BK0 := bb_ BK0.out hb; replace BK1 := bb_ BK1.out hb; replace BK2 := bb_ BK2.out hb; replace BK3 := blkPB_ (cs := #[.int .i64 ((rd_T51 l1 x0).f0.f0), .int .u64 ((rd_T51 l1 x0).f0.f1.f0), .int .u64 ((rd_T51 l1 x0).f0.f1.f1), .int .u64 ((rd_T51 l1 x0).f0.f1.f2), .int .u64 ((rd_T51 l1 x0).f0.f1.f3), .slice A0 ((rd_T51 l1 x0).f1).length c12]) BK3.out hb; replace HB := s_ hb; clear hb; have hnb13 := NB1.out; have hnc13 := NB0.out; obtain ⟨z54, z55, z56, z57, z58, f48, f49, f50, f51, f52⟩ := cz5_ BK1.out))
      refine bodyPost_ret (results_ct rfl _ _ gb0 31 #[.int .i64 0, .int .u64 0, .int .u64 0, .int .u64 0, .int .u64 0] (0, 0) _ rfl (blkF_ BK1.out) Try.underlying31 rfl (by kernel_rfl)) rfl ?_
      exact ⟨rfl_, bel_⟩
    ·rw [if_neg c1] at H
     have c15 := decide_eq_false c1
     clear c1
     simp only [Option.some.injEq, Prod.mk.injEq] at H
     obtain ⟨rfl, rfl, rfl, rfl, rfl, rfl⟩ := H
     have hnb14 := NB4.out
     have hnc14 := NB2.out
     have hnb15 := NB5.out
     have hnc15 := NB3.out
     obtain ⟨z59, z60, z61, z62, z63, f53, f54, f55, f56, f57⟩ := cz5_ BK2.out
     have hnb16 := NB1.out
     have hnc16 := NB0.out
     obtain ⟨z64, z65, z66, z67, z68, f58, f59, f60, f61, f62⟩ := cz5_ BK1.out
     go_wp2
     refine bodyPost_ret (results_ct rfl _ _ gb0 31 #[.int .i64 x1, .int .u64 x2, .int .u64 x3, .int .u64 x4, .int .u64 x5] (0, 0) _ rfl (blkF_ BK1.out) Try.underlying31 rfl (by kernel_rfl)) rfl ?_
     exact ⟨rfl_, bel_⟩
end
section
mutual
def impl_GrowthLift.j0 : Nat → Int → Int → Int → List (S29) → List (S29) → Bool → Option ((List (S29)) × Bool)
 | 0, _, _, _, _, _, _ => none
 | k + 1, x1, x0, x2, x3, x4, x5 => if x5 = true then (some (([] : List (S29)), false)) else (if x1 = x0 then ((impl_Digest.f x3).bind fun t0 => (some (t0, true))) else ((impl_known.f k x1 x0 x4).bind fun t1 => ((impl_way.f k x0 x2).bind fun t2 => (impl_GrowthLift.l0 k x2 x3 t1 t2 ([] : List (S29)) 0 0 x0))))
def impl_GrowthLift.l0 : Nat → Int → List (S29) → MapD → List (S100) → List (S29) → Int → Int → Int → Option ((List (S29)) × Bool)
 | 0, _, _, _, _, _, _, _, _ => none
 | k + 1, x4, x5, x2, x3, x0, x1, x6, x7 => (impl_lookAt.f x2 x6 x7).bind fun bt3 => (if bt3.2.2.2.2 = true then ((impl_way.f k (wrap64 (x7 - x6)) (wrap64 (x4 - x6))).bind fun t0 => (if 0 ≤ (t0.length : Int) then (if (t0.length : Int) ≤ (x5.length : Int) then ((impl_Digest.f (x5.take ((t0.length : Int) : Int).toNat)).bind fun t1 => (impl_GrowthLift.l1 k x0 t1 (wrap64 ((x0.length : Int) - 1)))) else (none)) else (none))) else (if 0 ≤ x1 then (if x1 < (x3.length : Int) then ((impl_node_halves.f k ((rd_T100 x3 x1).f0) ((rd_T100 x3 x1).f1)).bind fun bt0 => (if x4 < bt0.2.1 then ((impl_digestBy.f k x2 bt0.2.2.1 bt0.2.2.2).bind fun bt1 => (if x0.length < 4398046511104 then (impl_GrowthLift.l0 k x4 x5 x2 x3 (x0 ++ [(⟨bt1.1, bt1.2.1, bt1.2.2.1, bt1.2.2.2⟩ : S29)]) (wrap64 (x1 + 1)) bt0.1 bt0.2.1) else (none))) else ((impl_digestBy.f k x2 bt0.1 bt0.2.1).bind fun bt2 => (if x0.length < 4398046511104 then (impl_GrowthLift.l0 k x4 x5 x2 x3 (x0 ++ [(⟨bt2.1, bt2.2.1, bt2.2.2.1, bt2.2.2.2⟩ : S29)]) (wrap64 (x1 + 1)) bt0.2.2.1 bt0.2.2.2) else (none))))) else (none)) else (none)))
def impl_GrowthLift.l1 : Nat → List (S29) → List (S29) → Int → Option ((List (S29)) × Bool)
 | 0, _, _, _ => none
 | k + 1, x1, x2, x0 => if x0 ≥ 0 then (if 0 ≤ x0 then (if x0 < (x1.length : Int) then (if x2.length < 4398046511104 then (impl_GrowthLift.l1 k x1 (x2 ++ [(⟨(rd_T29 x1 x0).f0, (rd_T29 x1 x0).f1, (rd_T29 x1 x0).f2, (rd_T29 x1 x0).f3⟩ : S29)]) (wrap64 (x0 - 1))) else (none)) else (none)) else (none)) else ((impl_Digest.f x2).bind fun t0 => (some (t0, true)))
end
def impl_GrowthLift.f (k : Nat) (a0 a1 a2 : Int) (l3 l4 : List (S29)) : Option ((List (S29)) × Bool) := (impl_mayGrow.f a0 a1).bind fun t0 => (if t0 = true then ((impl_PathLen.f k a0 a2).bind fun t1 => (if t1 < 0 then (impl_GrowthLift.j0 k a0 a1 a2 l3 l4 true) else ((impl_PathLen.f k a0 a2).bind fun t2 => (if (l3.length : Int) = t2 then ((impl_GrowthLen.f k a0 a1).bind fun t3 => (impl_GrowthLift.j0 k a0 a1 a2 l3 l4 ((l4.length : Int) != t3))) else (impl_GrowthLift.j0 k a0 a1 a2 l3 l4 true))))) else (impl_GrowthLift.j0 k a0 a1 a2 l3 l4 true))
theorem impl_GrowthLift.calls (k : Nat) (a2 a1 a0 : Int) (A0 : Option Addr) (c3 : Nat) (l3 : List (S29)) (A5 : Option Addr) (c4 : Nat) (l4 r0 : List (S29)) (r1 : Bool) (w : World) (hr3 : Kd.C k29 w A0 l3.length l3) (hc3 : l3.length ≤ c3) (hr4 : Kd.C k29 w A5 l4.length l4) (hc4 : l4.length ≤ c4) (h : impl_GrowthLift.f k a2 a1 a0 l3 l4 = some (r0, r1)) :
  Calls Try.prog 38 #[.int .i64 a2, .int .i64 a1, .int .i64 a0, .slice A0 l3.length c3, .slice A5 l4.length c4] w fun e w' => ∃ v0_ : Value, e = .returned (.tuple #[v0_, .bool r1]) ∧ Kd.R k29 29 w' w.heap.size (fun _ => True) v0_ r0 ∧ Below w.heap.size w w' := by
 have hu100 := Try.underlying100
 have hu29 := Try.underlying29
 have HR3 := a_ hr3
 have HC3 := a_ hc3
 clear hr3 hc3
 have HR4 := a_ hr4
 have HC4 := a_ hc4
 clear hr4 hc4
 have HB := rB_ w
 have H := h
 unfold impl_GrowthLift.f at H
 clear h
 have HC6 := a_ H
 clear H
 go_enter Try.func38, Try.ntmps38
 go_upto_region 1 with (fail)
 go_cut [48] (fun v4 wc => ∃ (kq : Nat) (x6 : Bool), v4 = .bool x6 ∧ Aside0 (impl_GrowthLift.j0 kq a2 a1 a0 l3 l4 x6 = some (r0, r1)) ∧ Aside0 (kq ≤ k) ∧ Aside0 (Below w.heap.size w wc))
 case first =>
  have H := HC6.out
  clear HC6
  obtain ⟨t21, A1, H⟩ := bnd_ H
  by_cases c8 : t21 = true
  ·subst c8
   rw [if_pos rfl] at H
   obtain ⟨t20, A2, H⟩ := bnd_ H
   by_cases c10 : t20 < 0
   ·rw [if_pos c10] at H
    have c11 := decide_eq_true c10
    clear c10
    (first | rw [c11] | (simp only [i64_w, i32_w]; rw [c11]) | skip)
    have H' := a_ H
    clear H
    go_wp2_with (first | (refine gcD_ 62 25 Try.func62 (impl_mayGrow.calls _ _ _ _ A1.out) ?_; intro nd) | (go_at_call 78; (with_reducible refine (impl_PathLen.calls _ _ _ _ _ A2.out).mono ?_); rintro e w2 ⟨rfl, hb⟩; replace HB := s_ hb; clear hb))
    go_meet
    case rel => exact ⟨_, (true), rl_, H', ⟨by first | omega | exact Nat.le_refl _⟩, ⟨bel_⟩⟩
   ·rw [if_neg c10] at H
    have c11 := decide_eq_false c10
    clear c10
    (first | rw [c11] | (simp only [i64_w, i32_w]; rw [c11]) | skip)
    obtain ⟨t24, A3, H⟩ := bnd_ H
    have E_ := Option.some.inj (A2.out.symm.trans A3.out)
    subst E_
    by_cases c0 : (l3.length : Int) = t20
    ·rw [if_pos c0] at H
     have c16 := beq_iff_eq.mpr c0
     have c17 := bne_eq_false_iff_eq.mpr c0
     clear c0
     obtain ⟨t22, A7, H⟩ := bnd_ H
     have H' := a_ H
     clear H
     go_wp2_with (first | (refine gcD_ 62 25 Try.func62 (impl_mayGrow.calls _ _ _ _ A1.out) ?_; intro nd) | (go_at_call 78; (with_reducible refine (impl_PathLen.calls _ _ _ _ _ A2.out).mono ?_); rintro e w3 ⟨rfl, hb⟩; replace HB := s_ hb; clear hb) | (go_at_call 78; (with_reducible refine (impl_PathLen.calls _ _ _ _ _ A3.out).mono ?_); rintro e w4 ⟨rfl, hb⟩; replace HB := s_ hb; clear hb) | (go_at_call 31; (with_reducible refine (impl_GrowthLen.calls _ _ _ _ _ A7.out).mono ?_); rintro e w5 ⟨rfl, hb⟩; replace HB := s_ hb; clear hb))
     go_meet
     case rel => exact ⟨_, (((l4.length : Int) != t22)), rl_, H', ⟨by first | omega | exact Nat.le_refl _⟩, ⟨bel_⟩⟩
    ·rw [if_neg c0] at H
     have c16 := beq_eq_false_iff_ne.mpr c0
     have c17 := bne_iff_ne.mpr c0
     have H' := a_ H
     clear H
     go_wp2_with (first | (refine gcD_ 62 25 Try.func62 (impl_mayGrow.calls _ _ _ _ A1.out) ?_; intro nd) | (go_at_call 78; (with_reducible refine (impl_PathLen.calls _ _ _ _ _ A2.out).mono ?_); rintro e w6 ⟨rfl, hb⟩; replace HB := s_ hb; clear hb) | (go_at_call 78; (with_reducible refine (impl_PathLen.calls _ _ _ _ _ A3.out).mono ?_); rintro e w7 ⟨rfl, hb⟩; replace HB := s_ hb; clear hb))
     go_meet
     case rel => exact ⟨_, (true), rl_, H', ⟨by first | omega | exact Nat.le_refl _⟩, ⟨bel_⟩⟩
  ·replace c8 := Bool.eq_false_iff.mpr c8
   subst c8
   rw [if_neg (show ¬ (false = true) by decide)] at H
   have H' := a_ H
   clear H
   go_wp2_with (first | (refine gcD_ 62 25 Try.func62 (impl_mayGrow.calls _ _ _ _ A1.out) ?_; intro nd))
   go_meet
   case rel => exact ⟨_, (true), rl_, H', ⟨by first | omega | exact Nat.le_refl _⟩, ⟨bel_⟩⟩
 case rest =>
  clear HC6
  (try clear c3); (try clear c4); (try clear c8); (try clear c10); (try clear c11); (try clear c0); (try clear c16); (try clear c17)
  obtain ⟨kq, x6, rfl, HA, HJ5, HB⟩ := hcut
  cases kq with
  | zero => exact absurd HA.out (by simp [impl_GrowthLift.j0])
  | succ kj0 =>
   have H := HA.out
   clear HA
   simp only [impl_GrowthLift.j0] at H
   by_cases c12 : x6 = true
   ·subst c12
    rw [if_pos rfl] at H
    simp only [Option.some.injEq, Prod.mk.injEq] at H
    obtain ⟨rfl, rfl⟩ := H
    go_wp2
    go_ret2
    exact ⟨_, rfl_, by first | exact Kd.R_nil _ _ _ _ _ | exact Kd.N_nil _ _ _ _ _ | exact Kd.V_nil _ _ _ _ _ | exact Kd.Q_nil _ _ _ _ _ | exact Kd.S_nil _ _ _ _ _, bel_⟩
   ·replace c12 := Bool.eq_false_iff.mpr c12
    subst c12
    rw [if_neg (show ¬ (false = true) by decide)] at H
    by_cases c1 : a2 = a1
    ·rw [if_pos c1] at H
     have c20 := beq_iff_eq.mpr c1
     have c21 := bne_eq_false_iff_eq.mpr c1
     clear c1
     obtain ⟨t25, A8, H⟩ := bnd_ H
     simp only [Option.some.injEq, Prod.mk.injEq] at H
     obtain ⟨rfl, rfl⟩ := H
     go_wp2_with (first | (refine gcL_ 65 (some 53) Try.func65 #[.slice A0 l3.length c3] ?_; (with_reducible refine (impl_Digest.calls _ _ _ _ _ ?side1 ?side2 A8.out).mono ?_); (case side1 => exact cU_ (Kd.C_below HR3.out HB.out)); (case side2 => exact HC3.out); rintro e w9 ⟨v6, rfl, ho0, hb⟩; refine ⟨_, rfl, ?_⟩; have HO2 := a_ (Kd.R_lower ho0 (below_size bel_)); replace HB := s_ hb; clear hb; (try clear ho0)))
     go_ret2
     exact ⟨_, rfl_, uR_ HO2.out, bel_⟩
    ·rw [if_neg c1] at H
     have c20 := beq_eq_false_iff_ne.mpr c1
     have c21 := bne_iff_ne.mpr c1
     obtain ⟨t10, A9, H⟩ := bnd_ H
     obtain ⟨t8, A10, H⟩ := bnd_ H
     have H' := a_ H
     clear H
     go_wp2_with (first | (refine gcL_ 71 (some 57) Try.func71 #[.int .i64 a2, .int .i64 a1, .slice A5 l4.length c4] ?_; (with_reducible refine (impl_known.calls _ _ _ _ _ _ _ _ ?side1 ?side2 A9.out).mono ?_); (case side1 => exact cU_ (Kd.C_below HR4.out HB.out)); (case side2 => exact HC4.out); rintro e w10 ⟨gm_, rfl, hgm_, ⟨gn_, him_⟩, hb⟩; refine ⟨_, rfl, ?_⟩; have HM := a_ him_; clear him_ hgm_; replace HB := s_ hb; clear hb) | (refine gcL_ 76 (some 60) Try.func76 #[.int .i64 a1, .int .i64 a0] ?_; (with_reducible refine (impl_way.calls _ _ _ _ _ A10.out).mono ?_); rintro e w11 ⟨v5, rfl, ho0, hb⟩; refine ⟨_, rfl, ?_⟩; have HO0 := a_ (Kd.R_lower ho0 (below_size bel_)); replace HM := a_ (IsM.below (isS_ HM.out) hb); replace HB := s_ hb; clear hb; (try clear ho0)) | ((with_reducible refine gate_dst (N := 15) rfl ?_); (try (refine gate_guard (by rfl) ?_; dsimp only)); refine boxE_ (cs := #[.int .i64 0, .int .i64 0]) (t := 100) ?_; intro gb1 hg w12 hbox hb; replace HO0 := a_ (Kd.R_below (Kd.R_elderB (kdU_ HO0.out) gb1 (Nat.le_of_eq hg.symm)) hb); have BK0 := a_ (hbox); replace HM := a_ (IsM.below (isS_ HM.out) hb); have NM790 := a_ (IsM.ne HM.out BK0.out); have GW3 := sizeB_ hg; replace HB := s_ hb; clear hb hbox hg; obtain ⟨z0, z1, f0, f1⟩ := cz2_ BK0.out))
     go_loopg [14, 16] kj0 (fun kq v1 v2 w' => ∃ (x0 : List (S29)) (x2 x3 x4 : Int), v2 = .int .i64 x2 ∧ Aside0 (impl_GrowthLift.l0 kq a0 l3 t10 t8 x0 x2 x3 x4 = some (r0, r1)) ∧ Aside0 (kq ≤ kj0) ∧ Aside0 (Kd.R k100 100 w' w.heap.size (fun k_ => k_ ≠ gb1) v5 t8) ∧ Aside0 (Kd.R k29 29 w' w.heap.size (fun _ => True) v1 x0) ∧ Aside0 (w'.heap[gb1]? = some (.cells #[.int .i64 x3, .int .i64 x4] 100 (0, 0))) ∧ Aside0 (IsM w' gm_ gn_ t10) ∧ Aside0 (Below w.heap.size w w'))
     case atStart => exact ⟨(([] : List (S29))), (0), (0), (a1), rl_, H', ⟨Nat.le_refl _⟩, ⟨uR_ (Kd.R_mono (Kd.R_far (p := ⟨gb1, 1, none⟩) (Kd.R_far (p := ⟨gb1, 0, none⟩) (Kd.R_mono HO0.out (fun k_ hk => (⟨hk, hk.2⟩ : _ ∧ k_ ≠ gb1))) (fun _ hk => hk.2) (.int .i64 0)) (fun _ hk => hk.2) (.int .i64 a1)) (fun _ hk => hk.1.2))⟩, ⟨by first | exact Kd.R_nil _ _ _ _ _ | exact Kd.N_nil _ _ _ _ _ | exact Kd.V_nil _ _ _ _ _ | exact Kd.Q_nil _ _ _ _ _ | exact Kd.S_nil _ _ _ _ _⟩, ⟨blkF_ BK0.out⟩, ⟨isS_ HM.out⟩, ⟨bel_⟩⟩
     case round =>
      clear H'
      (try clear c3); (try clear c4); (try clear c8); (try clear c10); (try clear c11); (try clear c0); (try clear c16); (try clear c17); (try clear c12); (try clear c1); (try clear c20); (try clear c21); (try clear z0 z1); (try clear f0 f1)
      obtain ⟨x0, x2, x3, x4, rfl, HA, HK2, HO_1, HO_0, BK0, HM, HB⟩ := hrel
      cases gk with
      | zero => exact absurd HA.out (by simp [impl_GrowthLift.l0])
      | succ k2 =>
       have H := HA.out
       clear HA
       simp only [impl_GrowthLift.l0] at H
       obtain ⟨⟨t0, t1, t2, t3, t23⟩, A4, H⟩ := bnd_ H
       dsimp only at H
       by_cases c15 : t23 = true
       ·subst c15
        rw [if_pos rfl] at H
        obtain ⟨t9, A11, H⟩ := bnd_ H
        obtain ⟨c18, H⟩ := ifn_ H
        have c25 := eq_true c18
        have c26 := decide_eq_true c18
        clear c18
        obtain ⟨c19, H⟩ := ifn_ H
        have c27 := eq_true c19
        have c28 := decide_eq_true c19
        clear c19
        obtain ⟨y0, hy3⟩ : ∃ y_ : List (S29), y_ = (l3.take ((t9.length : Int) : Int).toNat) := ⟨_, rfl⟩
        replace H : ((impl_Digest.f y0).bind fun t19 => (impl_GrowthLift.l1 k2 x0 t19 (wrap64 ((x0.length : Int) - 1)))) = some (r0, r1) := rpl_ hy3 H
        have Ny0 := a_ hy3
        clear hy3
        obtain ⟨t19, A12, H⟩ := bnd_ H
        have H' := a_ H
        clear H
        obtain ⟨z2, z3, f2, f3⟩ := cz2_ BK0.out
        go_wp2_with (first | ((with_reducible refine gate_dst (N := 68) rfl ?_); refine goLook_ (isS_ HM.out) A4.out ?_; intro w13 hb; replace HO_1 := rb_ HO_1.out hb; replace HO_0 := rb_ HO_0.out hb; replace BK0 := bb_ BK0.out hb; replace HB := s_ hb; clear hb) | ((with_reducible refine gate_dst (N := 17) rfl ?_); (try (refine gate_guard (by rfl) ?_; dsimp only)); refine boxE_ (cs := #[.int .u64 0, .int .u64 0, .int .u64 0, .int .u64 0]) (t := 29) ?_; intro gb0 hg w14 hbox hb; replace HO_1 := rb_ HO_1.out hb; replace HO_0 := a_ (Kd.R_below (Kd.R_elderB (kdU_ HO_0.out) gb0 (Nat.le_of_eq hg.symm)) hb); have BK1 := a_ (hbox); have GW0 := sizeB_ hg; replace HB := s_ hb; obtain ⟨NB0, NB1⟩ := ne2_ BK0.out hg; replace BK0 := bb_ BK0.out hb; clear hb hbox hg; have hnb0 := NB1.out; have hnc0 := NB0.out; obtain ⟨z4, z5, z6, z7, f4, f5, f6, f7⟩ := cz4_ BK1.out; obtain ⟨z8, z9, f8, f9⟩ := cz2_ BK0.out) | (refine gcL_ 76 (some 108) Try.func76 #[.int .i64 (wrap64 (x4 - x3)), .int .i64 (wrap64 (a0 - x3))] ?_; (with_reducible refine (impl_way.calls _ _ _ _ _ A11.out).mono ?_); rintro e w15 ⟨v9, rfl, ho0, hb⟩; refine ⟨_, rfl, ?_⟩; replace HO_0 := a_ (Kd.R_below (uR_ (Kd.R_mono (Kd.R_far (p := ⟨gb0, 3, none⟩) (Kd.R_far (p := ⟨gb0, 2, none⟩) (Kd.R_far (p := ⟨gb0, 1, none⟩) (Kd.R_far (p := ⟨gb0, 0, none⟩) (Kd.R_mono HO_0.out (fun k_ hk => (⟨hk, hk.2⟩ : _ ∧ k_ ≠ gb0))) (fun _ hk => hk.2) (.int .u64 t0)) (fun _ hk => hk.2) (.int .u64 t1)) (fun _ hk => hk.2) (.int .u64 t2)) (fun _ hk => hk.2) (.int .u64 t3)) (fun _ h_ => h_.1))) hb); have HO1 := a_ (Kd.R_lower (Kd.R_newB (Kd.R_new' ho0 (Kd.R_lt (uR_ (Kd.R_mono (Kd.R_far (p := ⟨gb0, 3, none⟩) (Kd.R_far (p := ⟨gb0, 2, none⟩) (Kd.R_far (p := ⟨gb0, 1, none⟩) (Kd.R_far (p := ⟨gb0, 0, none⟩) (Kd.R_types HO_1.out BK1.out (by decide)) (fun _ hk => hk.2) (.int .u64 t0)) (fun _ hk => hk.2) (.int .u64 t1)) (fun _ hk => hk.2) (.int .u64 t2)) (fun _ hk => hk.2) (.int .u64 t3)) (fun _ h_ => h_.1))))) (g := gb1) (o := .cells #[.int .i64 x3, .int .i64 x4] 100 (0, 0)) (blkU_ BK0.out)) (below_size bel_)); replace HO_1 := a_ (Kd.R_elder' (uR_ (Kd.R_mono (Kd.R_far (p := ⟨gb0, 3, none⟩) (Kd.R_far (p := ⟨gb0, 2, none⟩) (Kd.R_far (p := ⟨gb0, 1, none⟩) (Kd.R_far (p := ⟨gb0, 0, none⟩) (Kd.R_types HO_1.out BK1.out (by decide)) (fun _ hk => hk.2) (.int .u64 t0)) (fun _ hk => hk.2) (.int .u64 t1)) (fun _ hk => hk.2) (.int .u64 t2)) (fun _ hk => hk.2) (.int .u64 t3)) (fun _ h_ => h_.1))) (Kd.R_base ho0) hb); replace BK0 := bb_ BK0.out hb; replace BK1 := blkPB_ (cs := #[.int .u64 t0, .int .u64 t1, .int .u64 t2, .int .u64 t3]) BK1.out hb; replace HB := s_ hb; clear hb; (try clear ho0); obtain ⟨Ao2, co2, eo0⟩ := Kd.R_slice HO1.out; subst eo0; have q1 : ((t9.length : Int) : Int) ≤ ((l3.length : Int) : Int) := ofd_; obtain ⟨i044, hi0, _, hsz44, _⟩ := info_parts info29; have hroom44 : l3.length ≤ c3 := HC3.out; have hC44 : Kd.C k29 _ A0 l3.length l3 := HR3.out; have hcut44 := cut_to (P := Try.prog) 49 29 .i64 Try.underlying49 hi0 A0 l3.length c3 (t9.length : Int) (ofd_) q1 hroom44; have hr44 := Kd.C_take (m := ((t9.length : Int) : Int).toNat) hC44 (by omega); have hy0 : y0.length = ((t9.length : Int) : Int).toNat := (by rw [Ny0.out, List.length_take]; omega); rw [← Ny0.out] at hr44; rw [← hy0] at hcut44; have HR824 := a_ hr44; have HC824 := a_ (show y0.length ≤ c3 from by omega); clear hr44 hC44 hroom44 hi0 hsz44; have KY44 := a_ hy0; clear hy0; replace q1 := eq_true q1) | (refine gcL_ 65 (some 111) Try.func65 #[.slice A0 y0.length c3] ?_; (with_reducible refine (impl_Digest.calls _ _ _ _ _ ?side1 ?side2 A12.out).mono ?_); (case side1 => exact cU_ (Kd.C_below HR824.out HB.out)); (case side2 => exact HC824.out); rintro e w16 ⟨v10, rfl, ho0, hb⟩; refine ⟨_, rfl, ?_⟩; replace HO_1 := rb_ HO_1.out hb; replace HO1 := rb_ HO1.out hb; have HO5 := a_ (Kd.R_lower (Kd.R_newB (Kd.R_new' ho0 (Kd.R_lt (kdU_ HO_0.out))) (g := gb0) (o := .cells #[.int .u64 t0, .int .u64 t1, .int .u64 t2, .int .u64 t3] 29 (0, 0)) (blkU_ BK1.out)) (below_size bel_)); replace HO_0 := a_ (Kd.R_elder' (kdU_ HO_0.out) (Kd.R_base ho0) hb); replace BK0 := bb_ BK0.out hb; replace BK1 := bb_ BK1.out hb; replace HB := s_ hb; clear hb; (try clear ho0); obtain ⟨Ao0, co0, eo1⟩ := Kd.R_slice HO_0.out; subst eo1))
        go_loopg [21, 22] k2 (fun kq v0 v3 w' => ∃ (x5 : List (S29)) (x1 : Int), v3 = .int .i64 x1 ∧ Aside0 (impl_GrowthLift.l1 kq x0 x5 x1 = some (r0, r1)) ∧ Aside0 (kq ≤ k2) ∧ Aside0 (Kd.R k29 29 w' w.heap.size (fun k_ => some k_ ≠ (v0 : Value).ownBlock ∧ k_ ≠ gb0) (.slice Ao0 x0.length co0) x0) ∧ Aside0 (Kd.R k29 29 w' w.heap.size (fun k_ => some k_ ≠ ((.slice Ao0 x0.length co0) : Value).ownBlock ∧ k_ ≠ gb0) v0 x5) ∧ Aside0 (w'.heap[gb1]? = some (.cells #[.int .i64 x3, .int .i64 x4] 100 (0, 0))) ∧ Aside0 (w'.heap[gb0]? = some (.cells #[.int .u64 t0, .int .u64 t1, .int .u64 t2, .int .u64 t3] 29 (0, 0))) ∧ Aside0 (Below w.heap.size w w'))
        case atStart => exact ⟨(t19), (wrap64 ((x0.length : Int) - 1)), rl_, H', ⟨Nat.le_refl _⟩, ⟨uR_ (Kd.R_mono HO_0.out (fun _ hk => ⟨hk.2, hk.1.2⟩))⟩, ⟨uR_ (Kd.R_mono HO5.out (fun _ hk => ⟨hk.1.2, hk.2⟩))⟩, ⟨blkU_ BK0.out⟩, ⟨blkU_ BK1.out⟩, ⟨bel_⟩⟩
        case round =>
         clear H'
         (try clear c3); (try clear c4); (try clear c8); (try clear c10); (try clear c11); (try clear c0); (try clear c16); (try clear c17); (try clear c12); (try clear c1); (try clear c20); (try clear c21); (try clear c15); (try clear c18); (try clear c25); (try clear c26); (try clear c19); (try clear c27); (try clear c28); (try clear q1); (try clear z0 z1); (try clear z2 z3); (try clear z4 z5 z6 z7); (try clear z8 z9); (try clear f0 f1); (try clear f2 f3); (try clear f4 f5 f6 f7); (try clear f8 f9)
         obtain ⟨x5, x1, rfl, HA, HK3, HO_0, HO_2, BK0, BK1, HB⟩ := hrel
         cases gk with
         | zero => exact absurd HA.out (by simp [impl_GrowthLift.l1])
         | succ k3 =>
          have H := HA.out
          clear HA
          simp only [impl_GrowthLift.l1] at H
          by_cases c13 : x1 ≥ 0
          ·rw [if_pos c13] at H
           have c29 : decide (0 ≤ x1) = true := decide_eq_true c13
           clear c13
           obtain ⟨c31, H⟩ := ifd_ H
           obtain ⟨c32, H⟩ := ifd_ H
           obtain ⟨c22, H⟩ := ifn_ H
           have LMc0 := a_ c22
           clear c22
           obtain ⟨y3, hy4⟩ : ∃ y_ : List (S29), y_ = (x5 ++ [(⟨(rd_T29 x0 x1).f0, (rd_T29 x0 x1).f1, (rd_T29 x0 x1).f2, (rd_T29 x0 x1).f3⟩ : S29)]) := ⟨_, rfl⟩
           replace H : (impl_GrowthLift.l1 k3 x0 y3 (wrap64 (x1 - 1))) = some (r0, r1) := rpl_ hy4 H
           have Ny3 := a_ hy4
           clear hy4
           have H' := a_ H
           clear H
           have p1 : 0 ≤ (x1 : Int) := ofd_
           have q2 : x1 < (x0.length : Int) := ofd_
           obtain ⟨ad1, e1, hx2, hx3, hx4, hx5⟩ := at_T29 (Kd.R_reads' HO_0.out).2.2 x1 p1 q2
           cases e1
           replace p1 := eq_true p1
           replace q2 := eq_true q2
           go_wp2_with (first | ((with_reducible refine gate_builtin (b := .append) (xs := #[.tmp 119, .tmp 124]) rfl ?_); (try (refine gate_guard (by rfl) ?_; dsimp only)); at_builtin; refine Kd.R_append k29 (w0 := w) w.heap.size rfl (.tmp 119) (.tmp 124) 49 29 (.agg #[(.int .u64 0), (.int .u64 0), (.int .u64 0), (.int .u64 0)]) 32 rfl Try.underlying49 info29 rfl (by decide) (by omega) u21 x5 (⟨(rd_T29 x0 x1).f0, (rd_T29 x0 x1).f1, (rd_T29 x0 x1).f2, (rd_T29 x0 x1).f3⟩ : S29) [.int .u64 ((rd_T29 x0 x1).f0), .int .u64 ((rd_T29 x0 x1).f1), .int .u64 ((rd_T29 x0 x1).f2), .int .u64 ((rd_T29 x0 x1).f3)] (fun k_ => some k_ ≠ (.slice (some ad1) x0.length co0 : Value).ownBlock ∧ k_ ≠ gb0) (fun _ => False) rfl rfl ?aP (fun _ hk => hk.elim) ?aF ?aO ?aB ?aS ?aL ?_; (case aP => exact k29_mkM _ _ _ (⟨(rd_T29 x0 x1).f0, (rd_T29 x0 x1).f1, (rd_T29 x0 x1).f2, (rd_T29 x0 x1).f3⟩ : S29)); (case aB => exact bel_); (case aF => exact (fun k_ hk => ⟨Kd.fresh' (Kd.R_lt (kdU_ HO_0.out)) k_ hk, Kd.freshB (g := gb0) (o := .cells #[.int .u64 t0, .int .u64 t1, .int .u64 t2, .int .u64 t3] 29 (0, 0)) (blkU_ BK1.out) k_ hk⟩)); (case aO => exact (kdU_ HO_2.out)); (case aS => exact (below_size bel_)); (case aL => have := LMc0.out; omega); intro v11 w17 ho hb hg hat; rw [← Ny3.out] at ho; replace HO_0 := a_ (Kd.R_after (ok := (fun k_ => k_ ≠ gb0)) (uR_ (Kd.R_mono HO_0.out (fun _ hk => ⟨hk.2, hk.1⟩))) hg hat); replace BK0 := a_ (blk_grown (g := gb1) (o := .cells #[.int .i64 x3, .int .i64 x4] 100 (0, 0)) (blkU_ BK0.out) hg (Kd.R_ne HO_2.out BK0.out (by decide))); replace BK1 := a_ (blk_grown (g := gb0) (o := .cells #[.int .u64 t0, .int .u64 t1, .int .u64 t2, .int .u64 t3] 29 (0, 0)) (blkU_ BK1.out) hg (Kd.R_away HO_2.out (fun _ hk => hk.2))); replace HB := a_ (hb); have HO6 := a_ (ho); clear HO_2; clear ho hb hg hat))
           go_roundg k3
           case measure => have := HJ5.out; have := HK2.out; have := HK3.out; omega
           case rel => exact ⟨(y3), (wrap64 (x1 - 1)), rl_, H', ⟨by have := HJ5.out; have := HK2.out; have := HK3.out; omega⟩, ⟨uR_ (Kd.R_mono HO_0.out (fun _ hk => ⟨hk.2, hk.1⟩))⟩, ⟨kdU_ HO6.out⟩, ⟨blkU_ BK0.out⟩, ⟨blkU_ BK1.out⟩, ⟨bel_⟩⟩
          ·rw [if_neg c13] at H
           have c29 : decide (0 ≤ x1) = false := decide_eq_false c13
           clear c13
           obtain ⟨t26, A13, H⟩ := bnd_ H
           simp only [Option.some.injEq, Prod.mk.injEq] at H
           obtain ⟨rfl, rfl⟩ := H
           obtain ⟨Ao1, co1, eo2⟩ := Kd.R_slice HO_2.out
           subst eo2
           go_wp2_with (first | (refine gcL_ 65 (some 127) Try.func65 #[.slice Ao1 x5.length co1] ?_; (with_reducible refine (impl_Digest.calls _ _ _ _ _ ?side1 ?side2 A13.out).mono ?_); (case side1 => exact cU_ (Kd.R_reads' HO_2.out).2.2); (case side2 => exact (Kd.R_reads' HO_2.out).2.1); rintro e w18 ⟨v12, rfl, ho0, hb⟩; refine ⟨_, rfl, ?_⟩; have HO7 := a_ (Kd.R_lower (Kd.R_newB (Kd.R_new' (Kd.R_new' ho0 (Kd.R_lt (kdU_ HO_0.out))) (Kd.R_lt (kdU_ HO_2.out))) (g := gb0) (o := .cells #[.int .u64 t0, .int .u64 t1, .int .u64 t2, .int .u64 t3] 29 (0, 0)) (blkU_ BK1.out)) (below_size bel_)); replace HO_0 := a_ (Kd.R_elder' (kdU_ HO_0.out) (Kd.R_base ho0) hb); replace HO_2 := a_ (Kd.R_elder' (kdU_ HO_2.out) (Kd.R_base ho0) hb); replace BK0 := bb_ BK0.out hb; replace BK1 := bb_ BK1.out hb; replace HB := s_ hb; clear hb; (try clear ho0)))
           go_ret2
           exact ⟨_, rfl_, uR_ (Kd.R_mono HO7.out (fun _ hk => trivial)), bel_⟩
       ·replace c15 := Bool.eq_false_iff.mpr c15
        subst c15
        rw [if_neg (show ¬ (false = true) by decide)] at H
        obtain ⟨c33, H⟩ := ifd_ H
        obtain ⟨c34, H⟩ := ifd_ H
        obtain ⟨⟨t5, t4, t6, t7⟩, A6, H⟩ := bnd_ H
        dsimp only at H
        by_cases c14 : a0 < t4
        ·rw [if_pos c14] at H
         have c30 := decide_eq_true c14
         clear c14
         obtain ⟨⟨t11, t12, t13, t14⟩, A14, H⟩ := bnd_ H
         dsimp only at H
         obtain ⟨c23, H⟩ := ifn_ H
         have LMc1 := a_ c23
         clear c23
         obtain ⟨y1, hy1⟩ : ∃ y_ : List (S29), y_ = (x0 ++ [(⟨t11, t12, t13, t14⟩ : S29)]) := ⟨_, rfl⟩
         replace H : (impl_GrowthLift.l0 k2 a0 l3 t10 t8 y1 (wrap64 (x2 + 1)) t5 t4) = some (r0, r1) := rpl_ hy1 H
         have Ny1 := a_ hy1
         clear hy1
         have H' := a_ H
         clear H
         obtain ⟨z10, z11, f10, f11⟩ := cz2_ BK0.out
         go_wp2_with (first | ((with_reducible refine gate_dst (N := 68) rfl ?_); refine goLook_ (isS_ HM.out) A4.out ?_; intro w19 hb; replace HO_1 := rb_ HO_1.out hb; replace HO_0 := rb_ HO_0.out hb; replace BK0 := bb_ BK0.out hb; replace HM := a_ (IsM.below (isS_ HM.out) hb); replace HB := s_ hb; clear hb) | ((with_reducible refine gate_dst (N := 17) rfl ?_); (try (refine gate_guard (by rfl) ?_; dsimp only)); refine boxE_ (cs := #[.int .u64 0, .int .u64 0, .int .u64 0, .int .u64 0]) (t := 29) ?_; intro gb0 hg w20 hbox hb; replace HO_1 := rb_ HO_1.out hb; replace HO_0 := a_ (Kd.R_below (Kd.R_elderB (kdU_ HO_0.out) gb0 (Nat.le_of_eq hg.symm)) hb); have BK1 := a_ (hbox); replace HM := a_ (IsM.below (isS_ HM.out) hb); have NM796 := a_ (IsM.ne HM.out BK1.out); have GW0 := sizeB_ hg; replace HB := s_ hb; obtain ⟨NB0, NB1⟩ := ne2_ BK0.out hg; replace BK0 := bb_ BK0.out hb; clear hb hbox hg; have hnb1 := NB1.out; have hnc1 := NB0.out; obtain ⟨z12, z13, z14, z15, f12, f13, f14, f15⟩ := cz4_ BK1.out; obtain ⟨Ao3, co3, eo3⟩ := Kd.R_slice HO_1.out; subst eo3; have p0 : 0 ≤ (x2 : Int) := ofd_; have q0 : x2 < (t8.length : Int) := ofd_; obtain ⟨ad0, e0, hx0, hx1⟩ := at_T100 (Kd.R_reads' HO_1.out).2.2 x2 p0 q0; cases e0; have hn797_0 : ad0.block ≠ gb0 := Kd.own_blk (Kd.R_ne HO_1.out BK1.out (by decide)); have hn797_1 : ad0.block ≠ gb0 := Kd.own_blk (Kd.R_ne HO_1.out BK1.out (by decide)); have hn797_2 : ad0.block ≠ gb0 := Kd.own_blk (Kd.R_ne HO_1.out BK1.out (by decide)); have hn797_3 : ad0.block ≠ gb0 := Kd.own_blk (Kd.R_ne HO_1.out BK1.out (by decide)); replace hx0 := (cell_far (p := ⟨gb0, 0, none⟩) (na_ hn797_0) (.int .u64 t0)).trans hx0; replace hx1 := (cell_far (p := ⟨gb0, 0, none⟩) (na_ hn797_0) (.int .u64 t0)).trans hx1; replace hx0 := (cell_far (p := ⟨gb0, 1, none⟩) (na_ hn797_1) (.int .u64 t1)).trans hx0; replace hx1 := (cell_far (p := ⟨gb0, 1, none⟩) (na_ hn797_1) (.int .u64 t1)).trans hx1; replace hx0 := (cell_far (p := ⟨gb0, 2, none⟩) (na_ hn797_2) (.int .u64 t2)).trans hx0; replace hx1 := (cell_far (p := ⟨gb0, 2, none⟩) (na_ hn797_2) (.int .u64 t2)).trans hx1; replace hx0 := (cell_far (p := ⟨gb0, 3, none⟩) (na_ hn797_3) (.int .u64 t3)).trans hx0; replace hx1 := (cell_far (p := ⟨gb0, 3, none⟩) (na_ hn797_3) (.int .u64 t3)).trans hx1; clear hn797_0; clear hn797_1; clear hn797_2; clear hn797_3; replace p0 := eq_true p0; replace q0 := eq_true q0) | (refine gcB_ 77 77 Try.func77 (impl_node_halves.calls _ _ _ _ _ _ _ _ A6.out) ?_; intro w21 hb; replace HO_1 := a_ (Kd.R_below (uR_ (Kd.R_mono (Kd.R_far (p := ⟨gb0, 3, none⟩) (Kd.R_far (p := ⟨gb0, 2, none⟩) (Kd.R_far (p := ⟨gb0, 1, none⟩) (Kd.R_far (p := ⟨gb0, 0, none⟩) (Kd.R_types HO_1.out BK1.out (by decide)) (fun _ hk => hk.2) (.int .u64 t0)) (fun _ hk => hk.2) (.int .u64 t1)) (fun _ hk => hk.2) (.int .u64 t2)) (fun _ hk => hk.2) (.int .u64 t3)) (fun _ h_ => h_.1))) hb); replace HO_0 := a_ (Kd.R_below (uR_ (Kd.R_mono (Kd.R_far (p := ⟨gb0, 3, none⟩) (Kd.R_far (p := ⟨gb0, 2, none⟩) (Kd.R_far (p := ⟨gb0, 1, none⟩) (Kd.R_far (p := ⟨gb0, 0, none⟩) (Kd.R_mono HO_0.out (fun k_ hk => (⟨hk, hk.2⟩ : _ ∧ k_ ≠ gb0))) (fun _ hk => hk.2) (.int .u64 t0)) (fun _ hk => hk.2) (.int .u64 t1)) (fun _ hk => hk.2) (.int .u64 t2)) (fun _ hk => hk.2) (.int .u64 t3)) (fun _ h_ => h_.1))) hb); replace BK0 := bb_ BK0.out hb; replace BK1 := blkPB_ (cs := #[.int .u64 t0, .int .u64 t1, .int .u64 t2, .int .u64 t3]) BK1.out hb; replace HM := a_ (IsM.below (isS_ HM.out) hb); replace HB := s_ hb; clear hb) | ((with_reducible refine gate_dst (N := 19) rfl ?_); (try (refine gate_guard (by rfl) ?_; dsimp only)); refine boxE_ (cs := #[.int .i64 0, .int .i64 0]) (t := 100) ?_; intro gb2 hg w22 hbox hb; replace HO_1 := a_ (Kd.R_below (Kd.R_elderB (kdU_ HO_1.out) gb2 (Nat.le_of_eq hg.symm)) hb); replace HO_0 := rb_ HO_0.out hb; have BK2 := a_ (hbox); replace HM := a_ (IsM.below (isS_ HM.out) hb); have NM802 := a_ (IsM.ne HM.out BK2.out); have GW1 := sizeB_ hg; replace HB := s_ hb; obtain ⟨NB2, NB6⟩ := ne2_ BK0.out hg; replace BK0 := bb_ BK0.out hb; obtain ⟨NB4, NB7⟩ := ne2_ BK1.out hg; replace BK1 := bb_ BK1.out hb; clear hb hbox hg) | ((with_reducible refine gate_dst (N := 20) rfl ?_); (try (refine gate_guard (by rfl) ?_; dsimp only)); refine boxE_ (cs := #[.int .i64 0, .int .i64 0]) (t := 100) ?_; intro gb3 hg w23 hbox hb; replace HO_1 := a_ (Kd.R_below (Kd.R_elderB (kdU_ HO_1.out) gb3 (Nat.le_of_eq hg.symm)) hb); replace HO_0 := rb_ HO_0.out hb; have BK3 := a_ (hbox); replace HM := a_ (IsM.below (isS_ HM.out) hb); have NM803 := a_ (IsM.ne HM.out BK3.out); have GW2 := sizeB_ hg; replace HB := s_ hb; obtain ⟨NB3, NB9⟩ := ne2_ BK0.out hg; replace BK0 := bb_ BK0.out hb; obtain ⟨NB5, NB10⟩ := ne2_ BK1.out hg; replace BK1 := bb_ BK1.out hb; obtain ⟨NB8, NB11⟩ := ne2_ BK2.out hg; replace BK2 := bb_ BK2.out hb; clear hb hbox hg; have hnb2 := NB6.out; have hnc2 := NB2.out; have hnb3 := NB7.out; have hnc3 := NB4.out; have hnb4 := NB8.out; have hnc4 := NB11.out; obtain ⟨z16, z17, f16, f17⟩ := cz2_ BK2.out; have hnb5 := NB9.out; have hnc5 := NB3.out; have hnb6 := NB10.out; have hnc6 := NB5.out; obtain ⟨z18, z19, f18, f19⟩ := cz2_ BK3.out; obtain ⟨z20, z21, f20, f21⟩ := cz2_ BK0.out) | (refine gcL_ 70 (some 88) Try.func70 #[.map (some gm_), .agg #[.int .i64 t6, .int .i64 t7]] ?_; (with_reducible refine (impl_digestBy.calls _ _ _ _ _ _ _ _ _ gm_ gn_ (isS_ HM.out) A14.out).mono ?_); rintro e w24 ⟨rfl, hb⟩; refine ⟨_, rfl, ?_⟩; replace HO_1 := a_ (Kd.R_below (uR_ (Kd.R_mono (Kd.R_mono (Kd.R_mono (Kd.R_far (p := ⟨gb1, 1, none⟩) (Kd.R_far (p := ⟨gb1, 0, none⟩) (Kd.R_far (p := ⟨gb3, 1, none⟩) (Kd.R_far (p := ⟨gb3, 0, none⟩) (Kd.R_far (p := ⟨gb2, 1, none⟩) (Kd.R_far (p := ⟨gb2, 0, none⟩) (Kd.R_mono (Kd.R_mono (Kd.R_mono HO_1.out (fun k_ hk => (⟨hk, hk.1.2⟩ : _ ∧ k_ ≠ gb2))) (fun k_ hk => (⟨hk, hk.1.2⟩ : _ ∧ k_ ≠ gb3))) (fun k_ hk => (⟨hk, hk.1.1.1.1⟩ : _ ∧ k_ ≠ gb1))) (fun _ hk => hk.1.1.2) (.int .i64 t5)) (fun _ hk => hk.1.1.2) (.int .i64 t4)) (fun _ hk => hk.1.2) (.int .i64 t6)) (fun _ hk => hk.1.2) (.int .i64 t7)) (fun _ hk => hk.2) (.int .i64 t5)) (fun _ hk => hk.2) (.int .i64 t4)) (fun _ h_ => h_.1)) (fun _ h_ => h_.1)) (fun _ h_ => h_.1))) hb); replace HO_0 := a_ (Kd.R_below (uR_ (Kd.R_mono (Kd.R_mono (Kd.R_mono (Kd.R_far (p := ⟨gb1, 1, none⟩) (Kd.R_far (p := ⟨gb1, 0, none⟩) (Kd.R_far (p := ⟨gb3, 1, none⟩) (Kd.R_far (p := ⟨gb3, 0, none⟩) (Kd.R_far (p := ⟨gb2, 1, none⟩) (Kd.R_far (p := ⟨gb2, 0, none⟩) (Kd.R_types (Kd.R_types (Kd.R_types HO_0.out BK2.out (by decide)) BK3.out (by decide)) BK0.out (by decide)) (fun _ hk => hk.1.1.2) (.int .i64 t5)) (fun _ hk => hk.1.1.2) (.int .i64 t4)) (fun _ hk => hk.1.2) (.int .i64 t6)) (fun _ hk => hk.1.2) (.int .i64 t7)) (fun _ hk => hk.2) (.int .i64 t5)) (fun _ hk => hk.2) (.int .i64 t4)) (fun _ h_ => h_.1)) (fun _ h_ => h_.1)) (fun _ h_ => h_.1))) hb); replace BK0 := blkPB_ (cs := #[.int .i64 t5, .int .i64 t4]) BK0.out hb; replace BK1 := bb_ BK1.out hb; replace BK2 := blkPB_ (cs := #[.int .i64 t5, .int .i64 t4]) BK2.out hb; replace BK3 := blkPB_ (cs := #[.int .i64 t6, .int .i64 t7]) BK3.out hb; replace HM := a_ (IsM.below (isS_ HM.out) hb); replace HB := s_ hb; clear hb) | ((with_reducible refine gate_builtin (b := .append) (xs := #[.tmp 85, .tmp 89]) rfl ?_); (try (refine gate_guard (by rfl) ?_; dsimp only)); at_builtin; refine Kd.R_append k29 (w0 := w) w.heap.size rfl (.tmp 85) (.tmp 89) 49 29 (.agg #[(.int .u64 0), (.int .u64 0), (.int .u64 0), (.int .u64 0)]) 32 rfl Try.underlying49 info29 rfl (by decide) (by omega) u14 x0 (⟨t11, t12, t13, t14⟩ : S29) [.int .u64 t11, .int .u64 t12, .int .u64 t13, .int .u64 t14] (fun k_ => k_ ≠ gb0) (fun _ => False) rfl rfl ?aP (fun _ hk => hk.elim) ?aF ?aO ?aB ?aS ?aL ?_; (case aP => exact k29_mkM _ _ _ (⟨t11, t12, t13, t14⟩ : S29)); (case aB => exact bel_); (case aF => exact (fun k_ hk => Kd.freshB (g := gb0) (o := .cells #[.int .u64 t0, .int .u64 t1, .int .u64 t2, .int .u64 t3] 29 (0, 0)) (blkU_ BK1.out) k_ hk)); (case aO => exact (uR_ (Kd.R_mono HO_0.out (fun _ hk => hk.2)))); (case aS => exact (below_size bel_)); (case aL => have := LMc1.out; omega); intro v7 w25 ho hb hg hat; rw [← Ny1.out] at ho; replace HO_1 := a_ (Kd.R_over' (kdU_ HO_1.out) (Kd.R_typed (kdU_ HO_0.out)) (by decide) hg); replace BK0 := a_ (blk_grown (g := gb1) (o := .cells #[.int .i64 t5, .int .i64 t4] 100 (0, 0)) (blkU_ BK0.out) hg (Kd.R_ne HO_0.out BK0.out (by decide))); replace BK1 := a_ (blk_grown (g := gb0) (o := .cells #[.int .u64 t0, .int .u64 t1, .int .u64 t2, .int .u64 t3] 29 (0, 0)) (blkU_ BK1.out) hg (Kd.R_away HO_0.out (fun _ hk => hk.2))); replace BK2 := a_ (blk_grown (g := gb2) (o := .cells #[.int .i64 t5, .int .i64 t4] 100 (0, 0)) (blkU_ BK2.out) hg (Kd.R_ne HO_0.out BK2.out (by decide))); replace BK3 := a_ (blk_grown (g := gb3) (o := .cells #[.int .i64 t6, .int .i64 t7] 100 (0, 0)) (blkU_ BK3.out) hg (Kd.R_ne HO_0.out BK3.out (by decide))); replace HM := a_ (IsM.grown (isS_ HM.out) hg (fun e_ => ((R_map HO_0.out HM.out).1 gm_ e_.symm).2 rfl)); replace HB := a_ (hb); have HO3 := a_ (ho); clear HO_0; clear ho hb hg hat))
         go_roundg k2
         case measure => have := HJ5.out; have := HK2.out; omega
         case rel => exact ⟨(y1), (wrap64 (x2 + 1)), (t5), (t4), rl_, H', ⟨by have := HJ5.out; have := HK2.out; omega⟩, ⟨uR_ (Kd.R_mono HO_1.out (fun _ hk => hk.1.1))⟩, ⟨uR_ (Kd.R_mono HO3.out (fun _ hk => trivial))⟩, ⟨blkU_ BK0.out⟩, ⟨isS_ HM.out⟩, ⟨bel_⟩⟩
        ·rw [if_neg c14] at H
         have c30 := decide_eq_false c14
         clear c14
         obtain ⟨⟨t15, t16, t17, t18⟩, A15, H⟩ := bnd_ H
         dsimp only at H
         obtain ⟨c24, H⟩ := ifn_ H
         have LMc2 := a_ c24
         clear c24
         obtain ⟨y2, hy2⟩ : ∃ y_ : List (S29), y_ = (x0 ++ [(⟨t15, t16, t17, t18⟩ : S29)]) := ⟨_, rfl⟩
         replace H : (impl_GrowthLift.l0 k2 a0 l3 t10 t8 y2 (wrap64 (x2 + 1)) t6 t7) = some (r0, r1) := rpl_ hy2 H
         have Ny2 := a_ hy2
         clear hy2
         have H' := a_ H
         clear H
         obtain ⟨z22, z23, f22, f23⟩ := cz2_ BK0.out
         go_wp2_with (first | ((with_reducible refine gate_dst (N := 68) rfl ?_); refine goLook_ (isS_ HM.out) A4.out ?_; intro w26 hb; replace HO_1 := rb_ HO_1.out hb; replace HO_0 := rb_ HO_0.out hb; replace BK0 := bb_ BK0.out hb; replace HM := a_ (IsM.below (isS_ HM.out) hb); replace HB := s_ hb; clear hb) | ((with_reducible refine gate_dst (N := 17) rfl ?_); (try (refine gate_guard (by rfl) ?_; dsimp only)); refine boxE_ (cs := #[.int .u64 0, .int .u64 0, .int .u64 0, .int .u64 0]) (t := 29) ?_; intro gb0 hg w27 hbox hb; replace HO_1 := rb_ HO_1.out hb; replace HO_0 := a_ (Kd.R_below (Kd.R_elderB (kdU_ HO_0.out) gb0 (Nat.le_of_eq hg.symm)) hb); have BK1 := a_ (hbox); replace HM := a_ (IsM.below (isS_ HM.out) hb); have NM796 := a_ (IsM.ne HM.out BK1.out); have GW0 := sizeB_ hg; replace HB := s_ hb; obtain ⟨NB0, NB1⟩ := ne2_ BK0.out hg; replace BK0 := bb_ BK0.out hb; clear hb hbox hg; have hnb7 := NB1.out; have hnc7 := NB0.out; obtain ⟨z25, z27, z28, z30, f24, f25, f26, f27⟩ := cz4_ BK1.out; obtain ⟨Ao4, co4, eo4⟩ := Kd.R_slice HO_1.out; subst eo4; have p0 : 0 ≤ (x2 : Int) := ofd_; have q0 : x2 < (t8.length : Int) := ofd_; obtain ⟨ad0, e0, hx0, hx1⟩ := at_T100 (Kd.R_reads' HO_1.out).2.2 x2 p0 q0; cases e0; have hn797_0 : ad0.block ≠ gb0 := Kd.own_blk (Kd.R_ne HO_1.out BK1.out (by decide)); have hn797_1 : ad0.block ≠ gb0 := Kd.own_blk (Kd.R_ne HO_1.out BK1.out (by decide)); have hn797_2 : ad0.block ≠ gb0 := Kd.own_blk (Kd.R_ne HO_1.out BK1.out (by decide)); have hn797_3 : ad0.block ≠ gb0 := Kd.own_blk (Kd.R_ne HO_1.out BK1.out (by decide)); replace hx0 := (cell_far (p := ⟨gb0, 0, none⟩) (na_ hn797_0) (.int .u64 t0)).trans hx0; replace hx1 := (cell_far (p := ⟨gb0, 0, none⟩) (na_ hn797_0) (.int .u64 t0)).trans hx1; replace hx0 := (cell_far (p := ⟨gb0, 1, none⟩) (na_ hn797_1) (.int .u64 t1)).trans hx0; replace hx1 := (cell_far (p := ⟨gb0, 1, none⟩) (na_ hn797_1) (.int .u64 t1)).trans hx1; replace hx0 := (cell_far (p := ⟨gb0, 2, none⟩) (na_ hn797_2) (.int .u64 t2)).trans hx0; replace hx1 := (cell_far (p := ⟨gb0, 2, none⟩) (na_ hn797_2) (.int .u64 t2)).trans hx1; replace hx0 := (cell_far (p := ⟨gb0, 3, none⟩) (na_ hn797_3) (.int .u64 t3)).trans hx0; replace hx1 := (cell_far (p := ⟨gb0, 3, none⟩) (na_ hn797_3) (.int .u64 t3)).trans hx1; clear hn797_0; clear hn797_1; clear hn797_2; clear hn797_3; replace p0 := eq_true p0; replace q0 := eq_true q0) | (refine gcB_ 77 77 Try.func77 (impl_node_halves.calls _ _ _ _ _ _ _ _ A6.out) ?_; intro w28 hb; replace HO_1 := a_ (Kd.R_below (uR_ (Kd.R_mono (Kd.R_far (p := ⟨gb0, 3, none⟩) (Kd.R_far (p := ⟨gb0, 2, none⟩) (Kd.R_far (p := ⟨gb0, 1, none⟩) (Kd.R_far (p := ⟨gb0, 0, none⟩) (Kd.R_types HO_1.out BK1.out (by decide)) (fun _ hk => hk.2) (.int .u64 t0)) (fun _ hk => hk.2) (.int .u64 t1)) (fun _ hk => hk.2) (.int .u64 t2)) (fun _ hk => hk.2) (.int .u64 t3)) (fun _ h_ => h_.1))) hb); replace HO_0 := a_ (Kd.R_below (uR_ (Kd.R_mono (Kd.R_far (p := ⟨gb0, 3, none⟩) (Kd.R_far (p := ⟨gb0, 2, none⟩) (Kd.R_far (p := ⟨gb0, 1, none⟩) (Kd.R_far (p := ⟨gb0, 0, none⟩) (Kd.R_mono HO_0.out (fun k_ hk => (⟨hk, hk.2⟩ : _ ∧ k_ ≠ gb0))) (fun _ hk => hk.2) (.int .u64 t0)) (fun _ hk => hk.2) (.int .u64 t1)) (fun _ hk => hk.2) (.int .u64 t2)) (fun _ hk => hk.2) (.int .u64 t3)) (fun _ h_ => h_.1))) hb); replace BK0 := bb_ BK0.out hb; replace BK1 := blkPB_ (cs := #[.int .u64 t0, .int .u64 t1, .int .u64 t2, .int .u64 t3]) BK1.out hb; replace HM := a_ (IsM.below (isS_ HM.out) hb); replace HB := s_ hb; clear hb) | ((with_reducible refine gate_dst (N := 19) rfl ?_); (try (refine gate_guard (by rfl) ?_; dsimp only)); refine boxE_ (cs := #[.int .i64 0, .int .i64 0]) (t := 100) ?_; intro gb2 hg w29 hbox hb; replace HO_1 := a_ (Kd.R_below (Kd.R_elderB (kdU_ HO_1.out) gb2 (Nat.le_of_eq hg.symm)) hb); replace HO_0 := rb_ HO_0.out hb; have BK2 := a_ (hbox); replace HM := a_ (IsM.below (isS_ HM.out) hb); have NM802 := a_ (IsM.ne HM.out BK2.out); have GW1 := sizeB_ hg; replace HB := s_ hb; obtain ⟨NB2, NB6⟩ := ne2_ BK0.out hg; replace BK0 := bb_ BK0.out hb; obtain ⟨NB4, NB7⟩ := ne2_ BK1.out hg; replace BK1 := bb_ BK1.out hb; clear hb hbox hg) | ((with_reducible refine gate_dst (N := 20) rfl ?_); (try (refine gate_guard (by rfl) ?_; dsimp only)); refine boxE_ (cs := #[.int .i64 0, .int .i64 0]) (t := 100) ?_; intro gb3 hg w30 hbox hb; replace HO_1 := a_ (Kd.R_below (Kd.R_elderB (kdU_ HO_1.out) gb3 (Nat.le_of_eq hg.symm)) hb); replace HO_0 := rb_ HO_0.out hb; have BK3 := a_ (hbox); replace HM := a_ (IsM.below (isS_ HM.out) hb); have NM803 := a_ (IsM.ne HM.out BK3.out); have GW2 := sizeB_ hg; replace HB := s_ hb; obtain ⟨NB3, NB9⟩ := ne2_ BK0.out hg; replace BK0 := bb_ BK0.out hb; obtain ⟨NB5, NB10⟩ := ne2_ BK1.out hg; replace BK1 := bb_ BK1.out hb; obtain ⟨NB8, NB11⟩ := ne2_ BK2.out hg; replace BK2 := bb_ BK2.out hb; clear hb hbox hg; have hnb8 := NB6.out; have hnc8 := NB2.out; have hnb9 := NB7.out; have hnc9 := NB4.out; have hnb10 := NB8.out; have hnc10 := NB11.out; obtain ⟨z32, z33, f28, f29⟩ := cz2_ BK2.out; have hnb11 := NB9.out; have hnc11 := NB3.out; have hnb12 := NB10.out; have hnc12 := NB5.out; obtain ⟨z34, z35, f30, f31⟩ := cz2_ BK3.out; obtain ⟨z36, z37, f32, f33⟩ := cz2_ BK0.out) | (refine gcL_ 70 (some 95) Try.func70 #[.map (some gm_), .agg #[.int .i64 t5, .int .i64 t4]] ?_; (with_reducible refine (impl_digestBy.calls _ _ _ _ _ _ _ _ _ gm_ gn_ (isS_ HM.out) A15.out).mono ?_); rintro e w31 ⟨rfl, hb⟩; refine ⟨_, rfl, ?_⟩; replace HO_1 := a_ (Kd.R_below (uR_ (Kd.R_mono (Kd.R_mono (Kd.R_mono (Kd.R_far (p := ⟨gb1, 1, none⟩) (Kd.R_far (p := ⟨gb1, 0, none⟩) (Kd.R_far (p := ⟨gb3, 1, none⟩) (Kd.R_far (p := ⟨gb3, 0, none⟩) (Kd.R_far (p := ⟨gb2, 1, none⟩) (Kd.R_far (p := ⟨gb2, 0, none⟩) (Kd.R_mono (Kd.R_mono (Kd.R_mono HO_1.out (fun k_ hk => (⟨hk, hk.1.2⟩ : _ ∧ k_ ≠ gb2))) (fun k_ hk => (⟨hk, hk.1.2⟩ : _ ∧ k_ ≠ gb3))) (fun k_ hk => (⟨hk, hk.1.1.1.1⟩ : _ ∧ k_ ≠ gb1))) (fun _ hk => hk.1.1.2) (.int .i64 t5)) (fun _ hk => hk.1.1.2) (.int .i64 t4)) (fun _ hk => hk.1.2) (.int .i64 t6)) (fun _ hk => hk.1.2) (.int .i64 t7)) (fun _ hk => hk.2) (.int .i64 t6)) (fun _ hk => hk.2) (.int .i64 t7)) (fun _ h_ => h_.1)) (fun _ h_ => h_.1)) (fun _ h_ => h_.1))) hb); replace HO_0 := a_ (Kd.R_below (uR_ (Kd.R_mono (Kd.R_mono (Kd.R_mono (Kd.R_far (p := ⟨gb1, 1, none⟩) (Kd.R_far (p := ⟨gb1, 0, none⟩) (Kd.R_far (p := ⟨gb3, 1, none⟩) (Kd.R_far (p := ⟨gb3, 0, none⟩) (Kd.R_far (p := ⟨gb2, 1, none⟩) (Kd.R_far (p := ⟨gb2, 0, none⟩) (Kd.R_types (Kd.R_types (Kd.R_types HO_0.out BK2.out (by decide)) BK3.out (by decide)) BK0.out (by decide)) (fun _ hk => hk.1.1.2) (.int .i64 t5)) (fun _ hk => hk.1.1.2) (.int .i64 t4)) (fun _ hk => hk.1.2) (.int .i64 t6)) (fun _ hk => hk.1.2) (.int .i64 t7)) (fun _ hk => hk.2) (.int .i64 t6)) (fun _ hk => hk.2) (.int .i64 t7)) (fun _ h_ => h_.1)) (fun _ h_ => h_.1)) (fun _ h_ => h_.1))) hb); replace BK0 := blkPB_ (cs := #[.int .i64 t6, .int .i64 t7]) BK0.out hb; replace BK1 := bb_ BK1.out hb; replace BK2 := blkPB_ (cs := #[.int .i64 t5, .int .i64 t4]) BK2.out hb; replace BK3 := blkPB_ (cs := #[.int .i64 t6, .int .i64 t7]) BK3.out hb; replace HM := a_ (IsM.below (isS_ HM.out) hb); replace HB := s_ hb; clear hb) | ((with_reducible refine gate_builtin (b := .append) (xs := #[.tmp 92, .tmp 96]) rfl ?_); (try (refine gate_guard (by rfl) ?_; dsimp only)); at_builtin; refine Kd.R_append k29 (w0 := w) w.heap.size rfl (.tmp 92) (.tmp 96) 49 29 (.agg #[(.int .u64 0), (.int .u64 0), (.int .u64 0), (.int .u64 0)]) 32 rfl Try.underlying49 info29 rfl (by decide) (by omega) u14 x0 (⟨t15, t16, t17, t18⟩ : S29) [.int .u64 t15, .int .u64 t16, .int .u64 t17, .int .u64 t18] (fun k_ => k_ ≠ gb0) (fun _ => False) rfl rfl ?aP (fun _ hk => hk.elim) ?aF ?aO ?aB ?aS ?aL ?_; (case aP => exact k29_mkM _ _ _ (⟨t15, t16, t17, t18⟩ : S29)); (case aB => exact bel_); (case aF => exact (fun k_ hk => Kd.freshB (g := gb0) (o := .cells #[.int .u64 t0, .int .u64 t1, .int .u64 t2, .int .u64 t3] 29 (0, 0)) (blkU_ BK1.out) k_ hk)); (case aO => exact (uR_ (Kd.R_mono HO_0.out (fun _ hk => hk.2)))); (case aS => exact (below_size bel_)); (case aL => have := LMc2.out; omega); intro v8 w1 ho hb hg hat; rw [← Ny2.out] at ho; replace HO_1 := a_ (Kd.R_over' (kdU_ HO_1.out) (Kd.R_typed (kdU_ HO_0.out)) (by decide) hg); replace BK0 := a_ (blk_grown (g := gb1) (o := .cells #[.int .i64 t6, .int .i64 t7] 100 (0, 0)) (blkU_ BK0.out) hg (Kd.R_ne HO_0.out BK0.out (by decide))); replace BK1 := a_ (blk_grown (g := gb0) (o := .cells #[.int .u64 t0, .int .u64 t1, .int .u64 t2, .int .u64 t3] 29 (0, 0)) (blkU_ BK1.out) hg (Kd.R_away HO_0.out (fun _ hk => hk.2))); replace BK2 := a_ (blk_grown (g := gb2) (o := .cells #[.int .i64 t5, .int .i64 t4] 100 (0, 0)) (blkU_ BK2.out) hg (Kd.R_ne HO_0.out BK2.out (by decide))); replace BK3 := a_ (blk_grown (g := gb3) (o := .cells #[.int .i64 t6, .int .i64 t7] 100 (0, 0)) (blkU_ BK3.out) hg (Kd.R_ne HO_0.out BK3.out (by decide))); replace HM := a_ (IsM.grown (isS_ HM.out) hg (fun e_ => ((R_map HO_0.out HM.out).1 gm_ e_.symm).2 rfl)); replace HB := a_ (hb); have HO4 := a_ (ho); clear HO_0; clear ho hb hg hat))
         go_roundg k2
         case measure => have := HJ5.out; have := HK2.out; omega
         case rel => exact ⟨(y2), (wrap64 (x2 + 1)), (t6), (t7), rl_, H', ⟨by have := HJ5.out; have := HK2.out; omega⟩, ⟨uR_ (Kd.R_mono HO_1.out (fun _ hk => hk.1.1))⟩, ⟨uR_ (Kd.R_mono HO4.out (fun _ hk => trivial))⟩, ⟨blkU_ BK0.out⟩, ⟨isS_ HM.out⟩, ⟨bel_⟩⟩
end
section
def spec_l3PeakOf.l0 : Nat → Int → Int → Int → Option (Int × Int)
 | 0, _, _, _ => none
 | k + 1, x1, x2, x0 => (spec_l2Half.f k (wrap64 (x1 - x0))).bind fun t0 => (if x2 ≥ (wrap64 (x0 + t0)) then ((spec_l2Half.f k (wrap64 (x1 - x0))).bind fun t1 => (spec_l3PeakOf.l0 k x1 x2 (wrap64 (x0 + t1)))) else ((spec_l2Half.f k (wrap64 (x1 - x0))).bind fun t2 => (some (x0, t2))))
def spec_l3PeakOf.f (k : Nat) (a0 a1 : Int) : Option (Int × Int) := spec_l3PeakOf.l0 k a0 a1 0
theorem spec_l3PeakOf.calls (k : Nat) (a1 a0 r0 r1 : Int) (w : World) (h : spec_l3PeakOf.f k a1 a0 = some (r0, r1)) :
  Calls Try.prog 83 #[.int .i64 a1, .int .i64 a0] w fun e w' => e = .returned (.tuple #[.int .i64 r0, .int .i64 r1]) ∧ Drawn0 w w' := by
 have H := h
 unfold spec_l3PeakOf.f at H
 clear h
 have H' := a_ H
 clear H
 go_enter Try.func83, Try.ntmps83
 go_wp2
 go_loopg [6] k (fun kq v0 w' => ∃ (x0 : Int), v0 = .int .i64 x0 ∧ Aside0 (spec_l3PeakOf.l0 kq a1 a0 x0 = some (r0, r1)) ∧ Aside0 (kq ≤ k) ∧ Drawn0 w w')
 case atStart => exact ⟨(0), rl_, H', ⟨Nat.le_refl _⟩, by repeat (first | exact Drawn0.refl _ | apply Drawn0.step)⟩
 case round =>
  clear H'
  obtain ⟨x0, rfl, HA, HK1, ⟨m1, rfl⟩⟩ := hrel
  cases gk with
  | zero => exact absurd HA.out (by simp [spec_l3PeakOf.l0])
  | succ k1 =>
   have H := HA.out
   clear HA
   simp only [spec_l3PeakOf.l0] at H
   obtain ⟨t0, A0, H⟩ := bnd_ H
   by_cases c4 : a0 ≥ (wrap64 (x0 + t0))
   ·rw [if_pos c4] at H
    have c0 : decide ((wrap64 (x0 + t0)) ≤ a0) = true := decide_eq_true c4
    clear c4
    obtain ⟨t1, A1, H⟩ := bnd_ H
    have H' := a_ H
    clear H
    go_wp2_with (first | (refine gcD_ 93 12 Try.func93 (spec_l2Half.calls _ _ _ _ A0.out) ?_; intro nd) | (refine gcD_ 93 19 Try.func93 (spec_l2Half.calls _ _ _ _ A1.out) ?_; intro nd))
    go_roundg k1
    case measure => have := HK1.out; omega
    case rel => exact ⟨(wrap64 (x0 + t1)), rl_, H', ⟨by have := HK1.out; omega⟩, by repeat (first | exact Drawn0.refl _ | apply Drawn0.step)⟩
   ·rw [if_neg c4] at H
    have c0 : decide ((wrap64 (x0 + t0)) ≤ a0) = false := decide_eq_false c4
    clear c4
    obtain ⟨t2, A2, H⟩ := bnd_ H
    simp only [Option.some.injEq, Prod.mk.injEq] at H
    obtain ⟨rfl, rfl⟩ := H
    go_wp2_with (first | (refine gcD_ 93 12 Try.func93 (spec_l2Half.calls _ _ _ _ A0.out) ?_; intro nd) | (refine gcD_ 93 25 Try.func93 (spec_l2Half.calls _ _ _ _ A2.out) ?_; intro nd))
    go_ret2
    exact ⟨rl_, dr_⟩
end
end
end Go.Proofs.Ytflckegggopdnaa.B
