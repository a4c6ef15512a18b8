/- Texts that this claim's law leans on, without what nothing names. What each says stands at its theorems; conditions stand in them. (Put together by the session's program shake.py; Lean checks it.) -/
import Derived.Test.YtflckegggopdnaaZCCP0
import Derived.Test.YtflckegggopdnaaZCCP2
import Derived.Test.YtflckegggopdnaaZCCP4
import Derived.Test.YtflckegggopdnaaZCCP5
import Derived.Test.YtflckegggopdnaaZCCGSpecHash1
import Derived.Test.YtflckegggopdnaaZCCP8
import Derived.Test.YtflckegggopdnaaZCCP12
import Derived.Test.YtflckegggopdnaaZCCGUp2
import Derived.Test.YtflckegggopdnaaZCCGLawD1
set_option linter.unusedVariables false
set_option maxHeartbeats 8000000
set_option maxRecDepth 100000
set_option linter.unusedSimpArgs false
namespace Go.Proofs.Ytflckegggopdnaa.B
section
open Go.RowKit Go.Proofs.YtflckegggopdnaaW
section
def spec_PeaksRoot.l0 : Nat → List (S29) → Int → Int → Int → Int → Int → Option (Int × Int × Int × Int)
 | 0, _, _, _, _, _, _ => none
 | k + 1, x1, x0, x2, x3, x4, x5 => if x0 ≥ 0 then (if 0 ≤ x0 then (if x0 < (x1.length : Int) then ((spec_HashPair.f k ((rd_T29 x1 x0).f0) ((rd_T29 x1 x0).f1) ((rd_T29 x1 x0).f2) ((rd_T29 x1 x0).f3) x2 x3 x4 x5).bind fun bt0 => (spec_PeaksRoot.l0 k x1 (wrap64 (x0 - 1)) bt0.1 bt0.2.1 bt0.2.2.1 bt0.2.2.2)) else (none)) else (none)) else (some (x2, x3, x4, x5))
def spec_PeaksRoot.f (k : Nat) (l0 : List (S29)) : Option (Int × Int × Int × Int) := if (l0.length : Int) > 8 then (some (0, 0, 0, 0)) else (if (l0.length : Int) = 0 then ((spec_HashOf.f k (⟨#[]⟩ : ByteArray)).bind fun bt0 => (some (bt0.1, bt0.2.1, bt0.2.2.1, bt0.2.2.2))) else (if 0 ≤ (wrap64 ((l0.length : Int) - 1)) then (if (wrap64 ((l0.length : Int) - 1)) < (l0.length : Int) then (spec_PeaksRoot.l0 k l0 (wrap64 ((l0.length : Int) - 2)) ((rd_T29 l0 (wrap64 ((l0.length : Int) - 1))).f0) ((rd_T29 l0 (wrap64 ((l0.length : Int) - 1))).f1) ((rd_T29 l0 (wrap64 ((l0.length : Int) - 1))).f2) ((rd_T29 l0 (wrap64 ((l0.length : Int) - 1))).f3)) else (none)) else (none)))
theorem spec_PeaksRoot.calls (k : Nat) (A0 : Option Addr) (c1 : Nat) (l0 : List (S29)) (r0 r1 r2 r3 : Int) (w : World) (hr0 : Kd.C k29 w A0 l0.length l0) (hc0 : l0.length ≤ c1) (h : spec_PeaksRoot.f k l0 = some (r0, r1, r2, r3)) :
  Calls Try.prog 73 #[.slice A0 l0.length c1] w fun e w' => e = .returned (.agg #[.int .u64 r0, .int .u64 r1, .int .u64 r2, .int .u64 r3]) ∧ Below w.heap.size w w' := by
 have hu29 := Try.underlying29
 have HR0 := a_ hr0
 have HC0 := a_ hc0
 clear hr0 hc0
 have HB := rB_ w
 have H := h
 unfold spec_PeaksRoot.f at H
 clear h
 by_cases c2 : (l0.length : Int) > 8
 ·rw [if_pos c2] at H
  have c11 : decide (8 < (l0.length : Int)) = true := decide_eq_true c2
  have c12 : decide (8 < l0.length) = true := decide_eq_true (by omega)
  clear c2
  simp only [Option.some.injEq, Prod.mk.injEq] at H
  obtain ⟨rfl, rfl, rfl, rfl⟩ := H
  go_enter Try.func73, Try.ntmps73
  go_wp2_with (first | (refine bx_ 2 #[.int .u64 0, .int .u64 0, .int .u64 0, .int .u64 0] 29 ?_; intro gb1 w5 hg hb BK1 GW0; replace HB := s_ hb; clear hb hg; obtain ⟨z4, z5, z6, z7, f4, f5, f6, f7⟩ := cz4_ BK1.out))
  refine bodyPost_ret (results_cell_row rfl _ _ gb1 29 #[.int .u64 0, .int .u64 0, .int .u64 0, .int .u64 0] (0, 0) _ rfl (blkF_ BK1.out) Try.underlying29 rfl (by kernel_rfl)) rfl ?_
  exact ⟨rfl_, bel_⟩
 ·rw [if_neg c2] at H
  have c11 : decide (8 < (l0.length : Int)) = false := decide_eq_false c2
  have c12 : decide (8 < l0.length) = false := decide_eq_false (by omega)
  clear c2
  by_cases c5 : (l0.length : Int) = 0
  ·rw [if_pos c5] at H
   have c13 := beq_iff_eq.mpr c5
   have c14 := bne_eq_false_iff_eq.mpr c5
   clear c5
   obtain ⟨⟨t0, t1, t2, t3⟩, A2, H⟩ := bnd_ H
   dsimp only at H
   simp only [Option.some.injEq, Prod.mk.injEq] at H
   obtain ⟨rfl, rfl, rfl, rfl⟩ := H
   go_enter Try.func73, Try.ntmps73
   go_wp2_with (first | (refine bx_ 2 #[.int .u64 0, .int .u64 0, .int .u64 0, .int .u64 0] 29 ?_; intro gb1 w6 hg hb BK1 GW0; replace HB := s_ hb; clear hb hg) | (refine gcB_ 72 12 Try.func72 (spec_HashOf.calls _ _ _ _ _ _ _ A2.out) ?_; intro w8 hb; replace BK1 := bb_ BK1.out hb; replace HB := s_ hb; clear hb; obtain ⟨z8, z9, z10, z11, f8, f9, f10, f11⟩ := cz4_ BK1.out))
   refine bodyPost_ret (results_cell_row rfl _ _ gb1 29 #[.int .u64 t0, .int .u64 t1, .int .u64 t2, .int .u64 t3] (0, 0) _ rfl (blkF_ BK1.out) Try.underlying29 rfl (by kernel_rfl)) rfl ?_
   exact ⟨rfl_, bel_⟩
  ·rw [if_neg c5] at H
   have c13 := beq_eq_false_iff_ne.mpr c5
   have c14 := bne_iff_ne.mpr c5
   have c18 : ¬ (l0 = []) := fun h_ => c5 (by rw [h_]; rfl)
   obtain ⟨ji10, hji10⟩ : ∃ j_ : Int, (wrap64 ((l0.length : Int) - 1)) = j_ := ⟨_, rfl⟩
   replace H : (if 0 ≤ (ji10) then (if (ji10) < (l0.length : Int) then (spec_PeaksRoot.l0 k l0 (wrap64 ((l0.length : Int) - 2)) ((rd_T29 l0 (ji10)).f0) ((rd_T29 l0 (ji10)).f1) ((rd_T29 l0 (ji10)).f2) ((rd_T29 l0 (ji10)).f3)) else (none)) else (none)) = some (r0, r1, r2, r3) := by first | (rw [hji10] at H; exact H) | (simp only [hji10] at H ⊢; exact H)
   have hji10w : (IntKind.i64.wrap ((l0.length : Int) - 1)) = ji10 := (i64_w _).trans hji10
   obtain ⟨c15, H⟩ := ifd_ H
   obtain ⟨c16, H⟩ := ifd_ H
   have H' := a_ H
   clear H
   go_enter Try.func73, Try.ntmps73
   go_wp2_with (first | (refine bx_ 2 #[.int .u64 0, .int .u64 0, .int .u64 0, .int .u64 0] 29 ?_; intro gb1 w2 hg hb BK1 GW0; replace HB := s_ hb; clear hb hg; have p0 : 0 ≤ ((ji10) : Int) := ofd_; have q0 : (ji10) < (l0.length : Int) := ofd_; obtain ⟨ad0, e0, hx4, hx5, hx6, hx7⟩ := at_T29 HR0.out (ji10) p0 q0; cases e0; replace hx4 := pc_ HB.out hx4; replace hx5 := pc_ HB.out hx5; replace hx6 := pc_ HB.out hx6; replace hx7 := pc_ HB.out hx7; replace p0 := eq_true p0; replace q0 := eq_true q0) | (refine bx_ 3 #[.int .u64 0, .int .u64 0, .int .u64 0, .int .u64 0] 29 ?_; intro gb0 w3 hg hb BK0 GW1; replace HB := s_ hb; obtain ⟨NB0, NB1⟩ := ne2_ BK1.out hg; replace BK1 := bb_ BK1.out hb; clear hb hg; have hnb0 := NB1.out; have hnc0 := NB0.out; obtain ⟨z0, z1, z2, z3, f0, f1, f2, f3⟩ := cz4_ BK0.out))
   go_loopg [4] k (fun kq v0 w' => ∃ (x0 x1 x2 x3 x4 : Int), v0 = .int .i64 x0 ∧ Aside0 (spec_PeaksRoot.l0 kq l0 x0 x1 x2 x3 x4 = some (r0, r1, r2, r3)) ∧ Aside0 (kq ≤ k) ∧ Aside0 (w'.heap[gb1]? = some (.cells #[.int .u64 0, .int .u64 0, .int .u64 0, .int .u64 0] 29 (0, 0))) ∧ Aside0 (w'.heap[gb0]? = some (.cells #[.int .u64 x1, .int .u64 x2, .int .u64 x3, .int .u64 x4] 29 (0, 0))) ∧ Aside0 (Below w.heap.size w w'))
   case atStart => exact ⟨(wrap64 ((l0.length : Int) - 2)), ((rd_T29 l0 (ji10)).f0), ((rd_T29 l0 (ji10)).f1), ((rd_T29 l0 (ji10)).f2), ((rd_T29 l0 (ji10)).f3), rl_, H', ⟨Nat.le_refl _⟩, ⟨blkU_ BK1.out⟩, ⟨blkF_ BK0.out⟩, ⟨bel_⟩⟩
   case round =>
    clear H'
    (try clear c2); (try clear c11); (try clear c12); (try clear c5); (try clear c13); (try clear c14); (try clear c18); (try clear c19); (try clear c15); (try clear c20); (try clear c16); (try clear z0 z1 z2 z3); (try clear z4 z5 z6 z7); (try clear z8 z9 z10 z11); (try clear f0 f1 f2 f3); (try clear f4 f5 f6 f7); (try clear f8 f9 f10 f11); (try clear hx4); (try clear hx5); (try clear hx6); (try clear hx7); (try clear p0); (try clear q0)
    obtain ⟨x0, x1, x2, x3, x4, rfl, HA, HK1, BK1, BK0, HB⟩ := hrel
    cases gk with
    | zero => exact absurd HA.out (by simp [spec_PeaksRoot.l0])
    | succ k1 =>
     have H := HA.out
     clear HA
     simp only [spec_PeaksRoot.l0] at H
     by_cases c0 : x0 ≥ 0
     ·rw [if_pos c0] at H
      have c17 : decide (0 ≤ x0) = true := decide_eq_true c0
      clear c0
      obtain ⟨c21, H⟩ := ifd_ H
      obtain ⟨c22, H⟩ := ifd_ H
      obtain ⟨⟨t4, t5, t6, t7⟩, A1, H⟩ := bnd_ H
      dsimp only at H
      have H' := a_ H
      clear H
      try go_wp2
      replace BK1 := a_ (blk_drew BK1.out)
      replace BK0 := a_ (blk_drew BK0.out)
      replace HB := a_ (below_drew1 HB.out)
      have p1 : 0 ≤ (x0 : Int) := ofd_
      have q1 : x0 < (l0.length : Int) := ofd_
      obtain ⟨ad1, e1, hx0, hx1, hx2, hx3⟩ := at_T29 HR0.out x0 p1 q1
      have hw3 := hx3
      have hw2 := hx2
      have hw1 := hx1
      have hw0 := hx0
      obtain rfl : ad0 = ad1 := (by injection e1)
      replace hx0 := pc_ HB.out hx0
      replace hx1 := pc_ HB.out hx1
      replace hx2 := pc_ HB.out hx2
      replace hx3 := pc_ HB.out hx3
      replace p1 := eq_true p1
      replace q1 := eq_true q1
      refine start_ (n := 7) (S := fun w' => w'.cell? ⟨gb0, 0, none⟩ = some (.int .u64 x1) ∧ w'.cell? ⟨gb0, 1, none⟩ = some (.int .u64 x2) ∧ w'.cell? ⟨gb0, 2, none⟩ = some (.int .u64 x3) ∧ w'.cell? ⟨gb0, 3, none⟩ = some (.int .u64 x4) ∧ w'.cell? (ad0.add ((x0).toNat * 4)) = some (.int .u64 ((rd_T29 l0 x0).f0)) ∧ w'.cell? ⟨(ad0.add ((x0).toNat * 4)).block, (ad0.add ((x0).toNat * 4)).off + 1, none⟩ = some (.int .u64 ((rd_T29 l0 x0).f1)) ∧ w'.cell? ⟨(ad0.add ((x0).toNat * 4)).block, (ad0.add ((x0).toNat * 4)).off + 2, none⟩ = some (.int .u64 ((rd_T29 l0 x0).f2)) ∧ w'.cell? ⟨(ad0.add ((x0).toNat * 4)).block, (ad0.add ((x0).toNat * 4)).off + 3, none⟩ = some (.int .u64 ((rd_T29 l0 x0).f3))) (ds := [6]) #[false, false, false, false, false, false, false] (by kernel_rfl) rfl rfl ⟨(blk_cell BK0.out 0).trans rfl, (blk_cell BK0.out 1).trans rfl, (blk_cell BK0.out 2).trans rfl, (blk_cell BK0.out 3).trans rfl, (pc_ HB.out hw0), (pc_ HB.out hw1), (pc_ HB.out hw2), (pc_ HB.out hw3)⟩ (fun hHeld => ?_)
      generalize wr.drew = w4 at BK1 BK0 HB hx0 hx1 hx2 hx3 hHeld ⊢
      refine pure_ (i := 0) (N := some 26) (v := ?_) (a' := ?_) #[true, false, false, false, false, false, false] rfl rfl (by kernel_rfl) (fun _ _ _ h => h) (Or.inl ⟨by rfl, ?_⟩) ?_ ?_
      rotate_left
      ·intro w'
       go_simp
       with_reducible rfl
      rotate_left
      ·simp only [Act.put, List.setIfInBounds_toArray, List.set_cons_zero, List.set_cons_succ, i64_w, i32_w]
       rfl
      refine pure_ (i := 1) (N := some 27) (v := ?_) (a' := ?_) #[true, true, false, false, false, false, false] rfl rfl (by kernel_rfl) (fun _ _ _ h => h) (Or.inl ⟨by rfl, ?_⟩) ?_ ?_
      rotate_left
      ·intro w'
       go_simp
       with_reducible rfl
      rotate_left
      ·simp only [Act.put, List.setIfInBounds_toArray, List.set_cons_zero, List.set_cons_succ, i64_w, i32_w]
       rfl
      refine pure_ (i := 2) (N := some 28) (v := ?_) (a' := ?_) #[true, true, true, false, false, false, false] rfl rfl (by kernel_rfl) (fun _ _ _ h => h) (Or.inl ⟨by rfl, ?_⟩) ?_ ?_
      rotate_left
      ·intro w'
       go_simp
       with_reducible rfl
      rotate_left
      ·simp only [Act.put, List.setIfInBounds_toArray, List.set_cons_zero, List.set_cons_succ, i64_w, i32_w]
       rfl
      refine take_ (i := 3) (N := some 29) (v := ?_) (a' := ?_) #[true, true, true, true, false, false, false] rfl rfl (by kernel_rfl) (fun _ _ _ h => h) (Or.inl ⟨by rfl, ?_⟩) hHeld ?_ ?_
      rotate_left
      ·rintro w' ⟨s0, s1, s2, s3, s4, s5, s6, s7⟩
       go_simp
       with_reducible rfl
      rotate_left
      ·simp only [Act.put, List.setIfInBounds_toArray, List.set_cons_zero, List.set_cons_succ, i64_w, i32_w]
       rfl
      refine take_ (i := 4) (N := some 30) (v := ?_) (a' := ?_) #[true, true, true, true, true, false, false] rfl rfl (by kernel_rfl) (fun _ _ _ h => h) (Or.inl ⟨by rfl, ?_⟩) hHeld ?_ ?_
      rotate_left
      ·rintro w' ⟨s0, s1, s2, s3, s4, s5, s6, s7⟩
       go_simp
       with_reducible rfl
      rotate_left
      ·simp only [Act.put, List.setIfInBounds_toArray, List.set_cons_zero, List.set_cons_succ, i64_w, i32_w]
       rfl
      refine one_ (i := 5) (N := some 31) #[true, true, true, true, true, true, false] rfl rfl (by kernel_rfl) (by decide) (fun K hK => ?_)
      refine goN_ Try.func119 #[.agg #[.int .u64 ((rd_T29 l0 x0).f0), .int .u64 ((rd_T29 l0 x0).f1), .int .u64 ((rd_T29 l0 x0).f2), .int .u64 ((rd_T29 l0 x0).f3)], .agg #[.int .u64 x1, .int .u64 x2, .int .u64 x3, .int .u64 x4]] ?_
      with_reducible refine (spec_HashPair.calls _ _ _ _ _ _ _ _ _ _ _ _ _ _ A1.out).mono ?_
      rintro e w1 ⟨rfl, hb⟩
      refine ⟨_, rfl, ?_⟩
      replace BK1 := bb_ BK1.out hb
      replace BK0 := bb_ BK0.out hb
      replace HB := s_ hb
      (try clear hb)
      refine hK.out _ _ ⟨(blk_cell BK0.out 0).trans rfl, (blk_cell BK0.out 1).trans rfl, (blk_cell BK0.out 2).trans rfl, (blk_cell BK0.out 3).trans rfl, (pc_ HB.out hw0), (pc_ HB.out hw1), (pc_ HB.out hw2), (pc_ HB.out hw3)⟩ (fun hHeld => ?_)
      clear hK K
      refine normP_ (some 31) ?_
      refine last_ (i := 6) (N := none) #[true, true, true, true, true, true, true] rfl rfl (by kernel_rfl) (by decide) (fun K hK => ?_)
      have hs0 : w1.cell? ⟨gb0, 0, none⟩ = some (.int .u64 x1) := (blk_cell BK0.out 0).trans rfl
      have hfs23 := blk_frozen BK0.out 0
      have hns23_0 := NB0.out
      have hms23_0 := NB1.out
      have hs1 : w1.cell? ⟨gb0, 1, none⟩ = some (.int .u64 x2) := (blk_cell BK0.out 1).trans rfl
      have hfs24 := blk_frozen BK0.out 1
      have hns24_0 := NB0.out
      have hms24_0 := NB1.out
      have hs2 : w1.cell? ⟨gb0, 2, none⟩ = some (.int .u64 x3) := (blk_cell BK0.out 2).trans rfl
      have hfs25 := blk_frozen BK0.out 2
      have hns25_0 := NB0.out
      have hms25_0 := NB1.out
      have hs3 : w1.cell? ⟨gb0, 3, none⟩ = some (.int .u64 x4) := (blk_cell BK0.out 3).trans rfl
      have hfs26 := blk_frozen BK0.out 3
      have hns26_0 := NB0.out
      have hms26_0 := NB1.out
      refine skip_ (w1 := ?_) (by rfl) rfl ?_ ?_
      rotate_left
      ·go_simp
       rfl
      refine hK.out _ _ ?_
      clear hK K
      refine done_ (by kernel_rfl) ?_
      try go_wp2
      go_roundg k1
      case measure => have := HK1.out; omega
      case rel => exact ⟨(wrap64 (x0 - 1)), (t4), (t5), (t6), (t7), rl_, H', ⟨by have := HK1.out; omega⟩, ⟨blkU_ BK1.out⟩, ⟨blkF_ BK0.out⟩, ⟨bel_⟩⟩
     ·rw [if_neg c0] at H
      have c17 : decide (0 ≤ x0) = false := decide_eq_false c0
      clear c0
      simp only [Option.some.injEq, Prod.mk.injEq] at H
      obtain ⟨rfl, rfl, rfl, rfl⟩ := H
      have hnb1 := NB1.out
      have hnc1 := NB0.out
      obtain ⟨z12, z13, z14, z15, f12, f13, f14, f15⟩ := cz4_ BK0.out
      obtain ⟨z16, z17, z18, z19, f16, f17, f18, f19⟩ := cz4_ BK1.out
      go_wp2
      refine bodyPost_ret (results_cell_row rfl _ _ gb1 29 #[.int .u64 x1, .int .u64 x2, .int .u64 x3, .int .u64 x4] (0, 0) _ rfl (blkF_ BK1.out) Try.underlying29 rfl (by kernel_rfl)) rfl ?_
      exact ⟨by first | rfl | (simp [errW_none, errW_some] <;> rfl) | (simp only [← hji10]; first | rfl | (simp [errW_none, errW_some] <;> rfl)) | (simp [*, errW_none, errW_some] <;> rfl), bel_⟩
end
section
def impl_PeaksRoot.f : Nat → List (S29) → Option (Int × Int × Int × Int)
 | 0, _ => none
 | k + 1, l0 => if (l0.length : Int) = 0 then ((impl_HashOf.f k (⟨#[]⟩ : ByteArray)).bind fun bt0 => (some (bt0.1, bt0.2.1, bt0.2.2.1, bt0.2.2.2))) else (if (l0.length : Int) > 8 then (some (0, 0, 0, 0)) else (if (l0.length : Int) = 1 then (if 0 < (l0.length : Int) then (some ((rd_T29 l0 0).f0, (rd_T29 l0 0).f1, (rd_T29 l0 0).f2, (rd_T29 l0 0).f3)) else (none)) else (if 0 < (l0.length : Int) then (if 1 ≤ (l0.length : Int) then ((impl_PeaksRoot.f k (l0.drop 1)).bind fun bt1 => ((impl_HashPair.f k ((rd_T29 l0 0).f0) ((rd_T29 l0 0).f1) ((rd_T29 l0 0).f2) ((rd_T29 l0 0).f3) bt1.1 bt1.2.1 bt1.2.2.1 bt1.2.2.2).bind fun bt2 => (some (bt2.1, bt2.2.1, bt2.2.2.1, bt2.2.2.2)))) else (none)) else (none))))
def impl_PeaksRoot.T7 : TT_ := (true, [([], []), ([0], [0]), ([1], [1]), ([], []), ([3], [3]), ([4], [4]), ([2, 5, 5], [2, 5]), ([6, 6, 0, 1, 2, 3, 4, 5, 6], [6])])
def impl_PeaksRoot.B7 : List Nat := [0, 1, 3, 0, 8, 24, 63, 127]
theorem impl_PeaksRoot.tab7 : rtab .any (opsOf Try.f69 7) = impl_PeaksRoot.T7 := by kernel_rfl
theorem impl_PeaksRoot.bits7 : waitsOk impl_PeaksRoot.T7.2 impl_PeaksRoot.B7 = true := by kernel_rfl
theorem impl_PeaksRoot.calls (k : Nat) : ∀ (A0 : Option Addr) (c0 : Nat) (l0 : List (S29)) (r0 r1 r2 r3 : Int) (w : World) (hr0 : Kd.C k29 w A0 l0.length l0) (hc0 : l0.length ≤ c0) (h : impl_PeaksRoot.f k l0 = some (r0, r1, r2, r3)),
  Calls Try.prog 69 #[.slice A0 l0.length c0] w fun e w' => e = .returned (.agg #[.int .u64 r0, .int .u64 r1, .int .u64 r2, .int .u64 r3]) ∧ Below w.heap.size w w' := by
 induction k using Nat.strongRecOn with
 | _ k ih =>
 intro A0 c0 l0 r0 r1 r2 r3 w hr0 hc0 h
 cases k with
 | zero => exact absurd h (by simp [impl_PeaksRoot.f])
 | succ k =>
 simp only [impl_PeaksRoot.f] at h
 have hu29 := Try.underlying29
 have HR0 := a_ hr0
 have HC0 := a_ hc0
 clear hr0 hc0
 have HB := rB_ w
 have H : (if (l0.length : Int) = 0 then ((impl_HashOf.f k (⟨#[]⟩ : ByteArray)).bind fun bt2 => (some (bt2.1, bt2.2.1, bt2.2.2.1, bt2.2.2.2))) else (if (l0.length : Int) > 8 then (some (0, 0, 0, 0)) else (if (l0.length : Int) = 1 then (if 0 < (l0.length : Int) then (some ((rd_T29 l0 0).f0, (rd_T29 l0 0).f1, (rd_T29 l0 0).f2, (rd_T29 l0 0).f3)) else (none)) else (if 0 < (l0.length : Int) then (if 1 ≤ (l0.length : Int) then ((impl_PeaksRoot.f k (l0.drop 1)).bind fun bt0 => ((impl_HashPair.f k ((rd_T29 l0 0).f0) ((rd_T29 l0 0).f1) ((rd_T29 l0 0).f2) ((rd_T29 l0 0).f3) bt0.1 bt0.2.1 bt0.2.2.1 bt0.2.2.2).bind fun bt1 => (some (bt1.1, bt1.2.1, bt1.2.2.1, bt1.2.2.2)))) else (none)) else (none))))) = some (r0, r1, r2, r3) := h
 clear h
 by_cases c2 : (l0.length : Int) = 0
 ·rw [if_pos c2] at H
  have c17 := beq_iff_eq.mpr c2
  have c18 := bne_eq_false_iff_eq.mpr c2
  clear c2
  obtain ⟨⟨t4, t5, t6, t7⟩, A5, H⟩ := bnd_ H
  dsimp only at H
  simp only [Option.some.injEq, Prod.mk.injEq] at H
  obtain ⟨rfl, rfl, rfl, rfl⟩ := H
  go_enter Try.func69, Try.ntmps69
  go_wp2_with (first | (refine bx_ 2 #[.int .u64 0, .int .u64 0, .int .u64 0, .int .u64 0] 29 ?_; intro gb0 w6 hg hb BK0 GW0; replace HB := s_ hb; clear hb hg) | (refine gcB_ 68 7 Try.func68 (impl_HashOf.calls _ _ _ _ _ _ _ A5.out) ?_; intro w7 hb; replace BK0 := bb_ BK0.out hb; replace HB := s_ hb; clear hb; obtain ⟨z4, z5, z6, z7, f4, f5, f6, f7⟩ := cz4_ BK0.out))
  refine bodyPost_ret (results_cell_row rfl _ _ gb0 29 #[.int .u64 t4, .int .u64 t5, .int .u64 t6, .int .u64 t7] (0, 0) _ rfl (blkF_ BK0.out) Try.underlying29 rfl (by kernel_rfl)) rfl ?_
  exact ⟨rfl_, bel_⟩
 ·rw [if_neg c2] at H
  have c17 := beq_eq_false_iff_ne.mpr c2
  have c18 := bne_iff_ne.mpr c2
  have c27 : ¬ (l0 = []) := fun h_ => c2 (by rw [h_]; rfl)
  by_cases c7 : (l0.length : Int) > 8
  ·rw [if_pos c7] at H
   have c19 : decide (8 < (l0.length : Int)) = true := decide_eq_true c7
   have c20 : decide (8 < l0.length) = true := decide_eq_true (by omega)
   clear c7
   simp only [Option.some.injEq, Prod.mk.injEq] at H
   obtain ⟨rfl, rfl, rfl, rfl⟩ := H
   go_enter Try.func69, Try.ntmps69
   go_wp2_with (first | (refine bx_ 2 #[.int .u64 0, .int .u64 0, .int .u64 0, .int .u64 0] 29 ?_; intro gb0 w8 hg hb BK0 GW0; replace HB := s_ hb; clear hb hg; obtain ⟨z8, z9, z10, z11, f8, f9, f10, f11⟩ := cz4_ BK0.out))
   refine bodyPost_ret (results_cell_row rfl _ _ gb0 29 #[.int .u64 0, .int .u64 0, .int .u64 0, .int .u64 0] (0, 0) _ rfl (blkF_ BK0.out) Try.underlying29 rfl (by kernel_rfl)) rfl ?_
   exact ⟨rfl_, bel_⟩
  ·rw [if_neg c7] at H
   have c19 : decide (8 < (l0.length : Int)) = false := decide_eq_false c7
   have c20 : decide (8 < l0.length) = false := decide_eq_false (by omega)
   clear c7
   by_cases c10 : (l0.length : Int) = 1
   ·rw [if_pos c10] at H
    have c15 := beq_iff_eq.mpr c10
    have c16 := bne_eq_false_iff_eq.mpr c10
    clear c10
    obtain ⟨c11, H⟩ := ifn_ H
    have c21 := decide_eq_true c11
    have c22 : decide (0 < l0.length) = true := decide_eq_true (by omega)
    clear c11
    simp only [Option.some.injEq, Prod.mk.injEq] at H
    obtain ⟨rfl, rfl, rfl, rfl⟩ := H
    go_enter Try.func69, Try.ntmps69
    go_wp2_with (first | (refine bx_ 2 #[.int .u64 0, .int .u64 0, .int .u64 0, .int .u64 0] 29 ?_; intro gb0 w3 hg hb BK0 GW0; replace HB := s_ hb; clear hb hg; have p0 : 0 ≤ (0 : Int) := (by omega); have q1 : 0 < (l0.length : Int) := ofd_; obtain ⟨ad1, e0, hx4, hx5, hx6, hx7⟩ := at_T29 HR0.out 0 p0 q1; cases e0; have qi405 : (0 < l0.length) = True := eq_true (by omega); (try rw [show ((0 : Int)).toNat = 0 from rfl] at hx4); (try rw [show 0 * 4 = 0 from rfl] at hx4); (try rw [Addr.add_zero'] at hx4); (try rw [show ((0 : Int)).toNat = 0 from rfl] at hx5); (try rw [show 0 * 4 = 0 from rfl] at hx5); (try rw [Addr.add_zero'] at hx5); (try rw [show ((0 : Int)).toNat = 0 from rfl] at hx6); (try rw [show 0 * 4 = 0 from rfl] at hx6); (try rw [Addr.add_zero'] at hx6); (try rw [show ((0 : Int)).toNat = 0 from rfl] at hx7); (try rw [show 0 * 4 = 0 from rfl] at hx7); (try rw [Addr.add_zero'] at hx7); replace hx4 := pc_ HB.out hx4; replace hx5 := pc_ HB.out hx5; replace hx6 := pc_ HB.out hx6; replace hx7 := pc_ HB.out hx7; replace p0 := eq_true p0; replace q1 := eq_true q1; obtain ⟨z0, z1, z2, z3, f0, f1, f2, f3⟩ := cz4_ BK0.out))
    refine bodyPost_ret (results_cell_row rfl _ _ gb0 29 #[.int .u64 ((rd_T29 l0 0).f0), .int .u64 ((rd_T29 l0 0).f1), .int .u64 ((rd_T29 l0 0).f2), .int .u64 ((rd_T29 l0 0).f3)] (0, 0) _ rfl (blkF_ BK0.out) Try.underlying29 rfl (by kernel_rfl)) rfl ?_
    exact ⟨rfl_, bel_⟩
   ·rw [if_neg c10] at H
    have c15 := beq_eq_false_iff_ne.mpr c10
    have c16 := bne_iff_ne.mpr c10
    obtain ⟨c12, H⟩ := ifn_ H
    have c23 := decide_eq_true c12
    have c24 : decide (0 < l0.length) = true := decide_eq_true (by omega)
    clear c12
    obtain ⟨c1, H⟩ := ifn_ H
    have c25 := eq_true c1
    have c26 := decide_eq_true c1
    clear c1
    obtain ⟨y0, hy1⟩ : ∃ y_ : List (S29), y_ = (l0.drop 1) := ⟨_, rfl⟩
    replace H : ((impl_PeaksRoot.f k y0).bind fun bt0 => ((impl_HashPair.f k ((rd_T29 l0 0).f0) ((rd_T29 l0 0).f1) ((rd_T29 l0 0).f2) ((rd_T29 l0 0).f3) bt0.1 bt0.2.1 bt0.2.2.1 bt0.2.2.2).bind fun bt1 => (some (bt1.1, bt1.2.1, bt1.2.2.1, bt1.2.2.2)))) = some (r0, r1, r2, r3) := rpl_ hy1 H
    have Ny0 := a_ hy1
    clear hy1
    obtain ⟨⟨t0, t1, t2, t3⟩, A3, H⟩ := bnd_ H
    dsimp only at H
    obtain ⟨⟨t8, t9, t10, t11⟩, A4, H⟩ := bnd_ H
    dsimp only at H
    simp only [Option.some.injEq, Prod.mk.injEq] at H
    obtain ⟨rfl, rfl, rfl, rfl⟩ := H
    go_enter Try.func69, Try.ntmps69
    try go_wp2_with (first | (refine bx_ 2 #[.int .u64 0, .int .u64 0, .int .u64 0, .int .u64 0] 29 ?_; intro gb0 w2 hg hb BK0 GW0; replace HB := s_ hb; clear hb hg))
    replace BK0 := a_ (blk_drew BK0.out)
    replace HB := a_ (below_drew1 HB.out)
    have p1 : 0 ≤ (0 : Int) := (by omega)
    have q2 : 0 < (l0.length : Int) := ofd_
    obtain ⟨ad0, e1, hx0, hx1, hx2, hx3⟩ := at_T29 HR0.out 0 p1 q2
    have hw3 := hx3
    (try rw [show ((0 : Int)).toNat = 0 from rfl] at hw3)
    (try rw [show 0 * 4 = 0 from rfl] at hw3)
    (try rw [Addr.add_zero'] at hw3)
    have hw2 := hx2
    (try rw [show ((0 : Int)).toNat = 0 from rfl] at hw2)
    (try rw [show 0 * 4 = 0 from rfl] at hw2)
    (try rw [Addr.add_zero'] at hw2)
    have hw1 := hx1
    (try rw [show ((0 : Int)).toNat = 0 from rfl] at hw1)
    (try rw [show 0 * 4 = 0 from rfl] at hw1)
    (try rw [Addr.add_zero'] at hw1)
    have hw0 := hx0
    (try rw [show ((0 : Int)).toNat = 0 from rfl] at hw0)
    (try rw [show 0 * 4 = 0 from rfl] at hw0)
    (try rw [Addr.add_zero'] at hw0)
    cases e1
    have qi406 : (0 < l0.length) = True := eq_true (by omega)
    (try rw [show ((0 : Int)).toNat = 0 from rfl] at hx0)
    (try rw [show 0 * 4 = 0 from rfl] at hx0)
    (try rw [Addr.add_zero'] at hx0)
    (try rw [show ((0 : Int)).toNat = 0 from rfl] at hx1)
    (try rw [show 0 * 4 = 0 from rfl] at hx1)
    (try rw [Addr.add_zero'] at hx1)
    (try rw [show ((0 : Int)).toNat = 0 from rfl] at hx2)
    (try rw [show 0 * 4 = 0 from rfl] at hx2)
    (try rw [Addr.add_zero'] at hx2)
    (try rw [show ((0 : Int)).toNat = 0 from rfl] at hx3)
    (try rw [show 0 * 4 = 0 from rfl] at hx3)
    (try rw [Addr.add_zero'] at hx3)
    replace hx0 := pc_ HB.out hx0
    replace hx1 := pc_ HB.out hx1
    replace hx2 := pc_ HB.out hx2
    replace hx3 := pc_ HB.out hx3
    replace p1 := eq_true p1
    replace q2 := eq_true q2
    have q0 : (1 : Int) ≤ ((l0.length : Int) : Int) := ofd_
    obtain ⟨i020, hi0, _, hsz20, _⟩ := info_parts info29
    have hroom20 : l0.length ≤ c0 := HC0.out
    have hC20 : Kd.C k29 _ (some ad0) l0.length l0 := HR0.out
    have hcut20 := cut_from (P := Try.prog) 49 29 .i64 Try.underlying49 hi0 4 hsz20 (some ad0) l0.length c0 1 (by omega) q0
    have hr20 := Kd.C_drop (m := (1 : Int).toNat) (c := c0) hC20 (by omega) hroom20
    obtain ⟨A1, hA20⟩ : ∃ A2, A2 = (if c0 = (1 : Int).toNat then (some ad0) else ((some ad0) : Option Addr).map (·.add ((1 : Int).toNat * 4))) := ⟨_, rfl⟩
    obtain ⟨c13, hc20⟩ : ∃ c14, c14 = c0 - (1 : Int).toNat := ⟨_, rfl⟩
    have hy0 : y0.length = l0.length - (1 : Int).toNat := (by rw [Ny0.out, List.length_drop] <;> omega)
    rw [show (l0).drop (1 : Int).toNat = y0 from Ny0.out.symm] at hr20
    replace hr20 : Kd.C k29 _ A1 y0.length y0 := (by rw [hA20]; exact hr20)
    rw [← hy0, ← hA20, ← hc20] at hcut20
    have HR410 := a_ hr20
    have HC410 := a_ (show y0.length ≤ c13 from by rw [hy0, hc20]; exact Nat.sub_le_sub_right hroom20 _)
    clear hr20 hC20 hroom20 hi0 hsz20 hc20
    have KY20 := a_ hy0
    have KA20 := a_ hA20
    clear hy0 hA20
    replace q0 := eq_true q0
    refine start_ (n := 8) (S := fun w' => w'.cell? ad0 = some (.int .u64 ((rd_T29 l0 0).f0)) ∧ w'.cell? ⟨ad0.block, ad0.off + 1, none⟩ = some (.int .u64 ((rd_T29 l0 0).f1)) ∧ w'.cell? ⟨ad0.block, ad0.off + 2, none⟩ = some (.int .u64 ((rd_T29 l0 0).f2)) ∧ w'.cell? ⟨ad0.block, ad0.off + 3, none⟩ = some (.int .u64 ((rd_T29 l0 0).f3))) (ds := []) #[false, false, false, false, false, false, false, false] (by kernel_rfl) rfl rfl ⟨(pc_ HB.out hw0), (pc_ HB.out hw1), (pc_ HB.out hw2), (pc_ HB.out hw3)⟩ (fun hHeld => ?_); refine with_tabW impl_PeaksRoot.tab7 impl_PeaksRoot.bits7 (fun HT HW_ => ?_)
    generalize w2.drew = w4 at BK0 HB HR410 hx0 hx1 hx2 hx3 hHeld ⊢
    refine qP_ 0 20 8 1 ?_
    refine qP_ 1 21 8 3 ?_
    refine qP_ 3 23 8 11 ?_
    refine qP_ 4 24 8 27 ?_
    refine qT_ 2 22 8 31 ?_
    refine oneP_ 5 (some 25) (b_ 8 63) HT (fun K hK => ?_)
    refine goN_ Try.func69 #[.slice A1 y0.length c13] ?_
    with_reducible refine (ih k (by omega) _ _ y0 t0 t1 t2 t3 _ ?side1 ?side2 A3.out).mono ?_
    (case side1 => exact cU_ (Kd.C_below HR410.out HB.out))
    (case side2 => exact HC410.out)
    rintro e w5 ⟨rfl, hb⟩
    refine ⟨_, rfl, ?_⟩
    replace BK0 := bb_ BK0.out hb
    replace HB := s_ hb
    (try clear hb)
    refine hK.out _ _ ⟨(pc_ HB.out hw0), (pc_ HB.out hw1), (pc_ HB.out hw2), (pc_ HB.out hw3)⟩ (fun hHeld => ?_)
    clear hK K
    refine normP_ (some 25) ?_
    refine oneP_ 6 (some 26) (b_ 8 127) HT (fun K hK => ?_)
    refine goN_ Try.func110 #[.agg #[.int .u64 ((rd_T29 l0 0).f0), .int .u64 ((rd_T29 l0 0).f1), .int .u64 ((rd_T29 l0 0).f2), .int .u64 ((rd_T29 l0 0).f3)], .agg #[.int .u64 t0, .int .u64 t1, .int .u64 t2, .int .u64 t3]] ?_
    with_reducible refine (impl_HashPair.calls _ _ _ _ _ _ _ _ _ _ _ _ _ _ A4.out).mono ?_
    rintro e w1 ⟨rfl, hb⟩
    refine ⟨_, rfl, ?_⟩
    replace BK0 := bb_ BK0.out hb
    replace HB := s_ hb
    (try clear hb)
    refine hK.out _ _ ⟨(pc_ HB.out hw0), (pc_ HB.out hw1), (pc_ HB.out hw2), (pc_ HB.out hw3)⟩ (fun hHeld => ?_)
    clear hK K
    refine normP_ (some 26) ?_
    refine oneP_ 7 none (b_ 8 255) HT (fun K hK => ?_)
    have hs0 : w1.cell? ⟨gb0, 0, none⟩ = some (.int .u64 0) := (blk_cell BK0.out 0).trans rfl
    have hfs23 := blk_frozen BK0.out 0
    have hs1 : w1.cell? ⟨gb0, 1, none⟩ = some (.int .u64 0) := (blk_cell BK0.out 1).trans rfl
    have hfs24 := blk_frozen BK0.out 1
    have hs2 : w1.cell? ⟨gb0, 2, none⟩ = some (.int .u64 0) := (blk_cell BK0.out 2).trans rfl
    have hfs25 := blk_frozen BK0.out 2
    have hs3 : w1.cell? ⟨gb0, 3, none⟩ = some (.int .u64 0) := (blk_cell BK0.out 3).trans rfl
    have hfs26 := blk_frozen BK0.out 3
    refine skip_ (w1 := ?_) (by rfl) rfl ?_ ?_
    rotate_left
    ·go_simp
     rfl
    refine hK.out _ _ ⟨((cell_far (p := ⟨gb0, _, none⟩) (nw_ hw0 GW0.out) _).trans (((cell_far (p := ⟨gb0, _, none⟩) (nw_ hw0 GW0.out) _).trans ((cf2_ (nw_ hw0 GW0.out) hHeld.1))))), ((cell_far (p := ⟨gb0, _, none⟩) (nw_ hw1 GW0.out) _).trans (((cell_far (p := ⟨gb0, _, none⟩) (nw_ hw1 GW0.out) _).trans ((cf2_ (nw_ hw1 GW0.out) hHeld.2.1))))), ((cell_far (p := ⟨gb0, _, none⟩) (nw_ hw2 GW0.out) _).trans (((cell_far (p := ⟨gb0, _, none⟩) (nw_ hw2 GW0.out) _).trans ((cf2_ (nw_ hw2 GW0.out) hHeld.2.2.1))))), ((cell_far (p := ⟨gb0, _, none⟩) (nw_ hw3 GW0.out) _).trans (((cell_far (p := ⟨gb0, _, none⟩) (nw_ hw3 GW0.out) _).trans ((cf2_ (nw_ hw3 GW0.out) hHeld.2.2.2)))))⟩ (fun hHeld => ?_)
    clear hK K
    refine done_ (done_of HT.out (by kernel_rfl)) ?_
    try go_wp2
    refine bodyPost_ret (results_cell_row rfl _ _ gb0 29 #[.int .u64 t8, .int .u64 t9, .int .u64 t10, .int .u64 t11] (0, 0) _ rfl (blkF_ BK0.out) Try.underlying29 rfl (by kernel_rfl)) rfl ?_
    exact ⟨rfl_, bel_⟩
end
section
mutual
def impl_peaksRow.l0 : Nat → Int → Int → List (S29) → List ByteArray → Int → Int → Option (List ByteArray)
 | 0, _, _, _, _, _, _ => none
 | k + 1, x4, x0, x1, x5, x2, x3 => if (wrap64 (x3 + 1)) < (x1.length : Int) then (impl_peaksRow.j1 k x4 x0 x1 x5 x2 x3 (decide (x0 ≥ x2))) else (impl_peaksRow.j1 k x4 x0 x1 x5 x2 x3 false)
def impl_peaksRow.j1 : Nat → Int → Int → List (S29) → List ByteArray → Int → Int → Bool → Option (List ByteArray)
 | 0, _, _, _, _, _, _, _ => none
 | k + 1, x3, x5, x1, x2, x4, x0, x6 => if x6 = true then (if 0 ≤ x0 then (if x0 < (x1.length : Int) then (if 0 ≤ (wrap64 (x0 + 1)) then (if (wrap64 (x0 + 1)) ≤ (x1.length : Int) then ((impl_PeaksRoot.f k (x1.drop ((wrap64 (x0 + 1)) : Int).toNat)).bind fun bt0 => ((impl_pairText.f k ((rd_T29 x1 x0).f0) ((rd_T29 x1 x0).f1) ((rd_T29 x1 x0).f2) ((rd_T29 x1 x0).f3) bt0.1 bt0.2.1 bt0.2.2.1 bt0.2.2.2).bind fun t0 => (if x2.length < 8796093022208 then (impl_peaksRow.l1 k x3 x5 x1 (x2 ++ [t0]) x4 x0 (wrap64 (x3 - x4)) 1) else (none)))) else (none)) else (none)) else (none)) else (none)) else (some x2)
def impl_peaksRow.l1 : Nat → Int → Int → List (S29) → List ByteArray → Int → Int → Int → Int → Option (List ByteArray)
 | 0, _, _, _, _, _, _, _, _ => none
 | k + 1, x1, x2, x4, x5, x6, x7, x3, x0 => if (wrap64 (2 * x0)) ≤ x3 then (impl_peaksRow.l1 k x1 x2 x4 x5 x6 x7 x3 (wrap64 (x0 * 2))) else (impl_peaksRow.l0 k x1 x2 x4 x5 (wrap64 (x6 + x0)) (wrap64 (x7 + 1)))
end
def impl_peaksRow.f (k : Nat) (a0 a1 : Int) (l2 : List (S29)) : Option (List ByteArray) := impl_peaksRow.l0 k a0 a1 l2 ([] : List ByteArray) 0 0
def impl_peaksRow.T6 : TT_ := (true, [([], []), ([], []), ([], []), ([1, 2], [1, 2]), ([3], [3]), ([], []), ([], []), ([6], [6]), ([5, 7], [5, 7]), ([8], [8]), ([4, 9, 9], [4, 9]), ([10], [10]), ([0, 11, 10], [0, 11]), ([12, 12, 0, 1, 2, 3, 4, 5, 6, 7, 8, 9, 10, 11, 12], [0, 12])])
def impl_peaksRow.B6 : List Nat := [0, 0, 0, 6, 14, 0, 0, 64, 224, 480, 1022, 2046, 4095, 8191]
theorem impl_peaksRow.tab6 : rtab .any (opsOf Try.f54 6) = impl_peaksRow.T6 := by kernel_rfl
theorem impl_peaksRow.bits6 : waitsOk impl_peaksRow.T6.2 impl_peaksRow.B6 = true := by kernel_rfl
theorem impl_peaksRow.calls (k : Nat) (a0 a1 : Int) (A1 : Option Addr) (c2 : Nat) (l2 : List (S29)) (r : List ByteArray) (w : World) (hr2 : Kd.C k29 w A1 l2.length l2) (hc2 : l2.length ≤ c2) (h : impl_peaksRow.f k a0 a1 l2 = some r) :
  Calls Try.prog 54 #[.int .i64 a0, .int .i64 a1, .slice A1 l2.length c2] w fun e w' => ∃ v0_ : Value, e = .returned (v0_) ∧ Kd.R Kd.string 9 w' w.heap.size (fun _ => True) v0_ r ∧ Below w.heap.size w w' := by
 have hu29 := Try.underlying29
 have HR2 := a_ hr2
 have HC2 := a_ hc2
 clear hr2 hc2
 have HB := rB_ w
 have H := h
 unfold impl_peaksRow.f at H
 clear h
 have H' := a_ H
 clear H
 go_enter Try.func54, Try.ntmps54
 go_wp2
 go_loopg [7, 8, 9] k (fun kq v2 v3 v4 w' => ∃ (x2 : List ByteArray) (x1 x0 : Int), v3 = .int .i64 x1 ∧ v4 = .int .i64 x0 ∧ Aside0 (impl_peaksRow.l0 kq a0 a1 l2 x2 x1 x0 = some r) ∧ Aside0 (kq ≤ k) ∧ Aside0 (Kd.R Kd.string 9 w' w.heap.size (fun _ => True) v2 x2) ∧ Aside0 (Below w.heap.size w w'))
 case atStart => exact ⟨(([] : List ByteArray)), (0), (0), rl_, rl_, H', ⟨Nat.le_refl _⟩, ⟨by first | exact Kd.R_nil _ _ _ _ _ | exact Kd.N_nil _ _ _ _ _ | exact Kd.V_nil _ _ _ _ _ | exact Kd.Q_nil _ _ _ _ _ | exact Kd.S_nil _ _ _ _ _⟩, ⟨bel_⟩⟩
 case round =>
  clear H'
  (try clear c2)
  obtain ⟨x2, x1, x0, rfl, rfl, HA, HK1, HO_0, HB⟩ := hrel
  cases gk with
  | zero => exact absurd HA.out (by simp [impl_peaksRow.l0])
  | succ k1 =>
   have H := HA.out
   clear HA
   simp only [impl_peaksRow.l0] at H
   have HC4 := a_ H
   clear H
   go_upto_region 4 with (fail)
   go_cut [21] (fun v1 wc => ∃ (kq : Nat) (x4 : Bool), v1 = .bool x4 ∧ Aside0 (impl_peaksRow.j1 kq a0 a1 l2 x2 x1 x0 x4 = some r) ∧ Aside0 (kq ≤ k1) ∧ Aside0 (Kd.R Kd.string 9 wc w.heap.size (fun _ => True) u7 x2) ∧ Aside0 (Below w.heap.size w wc))
   case first =>
    have H := HC4.out
    clear HC4
    by_cases c5 : (wrap64 (x0 + 1)) < (l2.length : Int)
    ·rw [if_pos c5] at H
     have c0 := decide_eq_true c5
     clear c5
     (first | rw [c0] | (simp only [i64_w, i32_w]; rw [c0]) | skip)
     have H' := a_ H
     clear H
     go_wp2
     go_meet
     case rel => exact ⟨_, (decide (a1 ≥ x1)), rl_, H', ⟨by have := HK1.out; first | omega | exact Nat.le_refl _⟩, ⟨kdU_ HO_0.out⟩, ⟨bel_⟩⟩
    ·rw [if_neg c5] at H
     have c0 := decide_eq_false c5
     clear c5
     (first | rw [c0] | (simp only [i64_w, i32_w]; rw [c0]) | skip)
     have H' := a_ H
     clear H
     go_wp2
     go_meet
     case rel => exact ⟨_, (false), rl_, H', ⟨by have := HK1.out; first | omega | exact Nat.le_refl _⟩, ⟨kdU_ HO_0.out⟩, ⟨bel_⟩⟩
   case rest =>
    clear HC4
    (try clear c2); (try clear c5); (try clear c0)
    obtain ⟨kq, x4, rfl, HA, HJ3, HO_0, HB⟩ := hcut
    cases kq with
    | zero => exact absurd HA.out (by simp [impl_peaksRow.j1])
    | succ kj0 =>
     have H := HA.out
     clear HA
     simp only [impl_peaksRow.j1] at H
     by_cases c6 : x4 = true
     ·subst c6
      rw [if_pos rfl] at H
      obtain ⟨c20, H⟩ := ifd_ H
      obtain ⟨c21, H⟩ := ifd_ H
      obtain ⟨ji9, hji9⟩ : ∃ j_ : Int, (wrap64 (x0 + 1)) = j_ := ⟨_, rfl⟩
      replace H : (if 0 ≤ (ji9) then (if (ji9) ≤ (l2.length : Int) then ((impl_PeaksRoot.f kj0 (l2.drop ((ji9) : Int).toNat)).bind fun bt0 => ((impl_pairText.f kj0 ((rd_T29 l2 x0).f0) ((rd_T29 l2 x0).f1) ((rd_T29 l2 x0).f2) ((rd_T29 l2 x0).f3) bt0.1 bt0.2.1 bt0.2.2.1 bt0.2.2.2).bind fun t0 => (if x2.length < 8796093022208 then (impl_peaksRow.l1 kj0 a0 a1 l2 (x2 ++ [t0]) x1 x0 (wrap64 (a0 - x1)) 1) else (none)))) else (none)) else (none)) = some r := by first | (rw [hji9] at H; exact H) | (simp only [hji9] at H ⊢; exact H)
      have hji9w : (IntKind.i64.wrap (x0 + 1)) = ji9 := (i64_w _).trans hji9
      obtain ⟨c10, H⟩ := ifn_ H
      have c15 := eq_true c10
      have c16 := decide_eq_true c10
      clear c10
      obtain ⟨c11, H⟩ := ifn_ H
      have c17 := eq_true c11
      have c18 := decide_eq_true c11
      clear c11
      obtain ⟨y0, hy1⟩ : ∃ y_ : List (S29), y_ = (l2.drop ((ji9) : Int).toNat) := ⟨_, rfl⟩
      replace H : ((impl_PeaksRoot.f kj0 y0).bind fun bt0 => ((impl_pairText.f kj0 ((rd_T29 l2 x0).f0) ((rd_T29 l2 x0).f1) ((rd_T29 l2 x0).f2) ((rd_T29 l2 x0).f3) bt0.1 bt0.2.1 bt0.2.2.1 bt0.2.2.2).bind fun t0 => (if x2.length < 8796093022208 then (impl_peaksRow.l1 kj0 a0 a1 l2 (x2 ++ [t0]) x1 x0 (wrap64 (a0 - x1)) 1) else (none)))) = some r := rpl_ hy1 H
      have Ny0 := a_ hy1
      clear hy1
      obtain ⟨⟨t1, t2, t3, t4⟩, A3, H⟩ := bnd_ H
      dsimp only at H
      obtain ⟨t0, A4, H⟩ := bnd_ H
      obtain ⟨c12, H⟩ := ifn_ H
      have LMc0 := a_ c12
      clear c12
      obtain ⟨y1, hy2⟩ : ∃ y_ : List ByteArray, y_ = (x2 ++ [t0]) := ⟨_, rfl⟩
      replace H : (impl_peaksRow.l1 kj0 a0 a1 l2 y1 x1 x0 (wrap64 (a0 - x1)) 1) = some r := rpl_ hy2 H
      have Ny1 := a_ hy2
      clear hy2
      have H' := a_ H
      clear H
      try go_wp2
      replace HO_0 := a_ (Kd.R_drew HO_0.out)
      replace HB := a_ (below_drew1 HB.out)
      have p0 : 0 ≤ (x0 : Int) := ofd_
      have q1 : x0 < (l2.length : Int) := ofd_
      obtain ⟨ad0, e0, hx0, hx1, hx2, hx3⟩ := at_T29 HR2.out x0 p0 q1
      have hw3 := hx3
      have hw2 := hx2
      have hw1 := hx1
      have hw0 := hx0
      cases e0
      replace hx0 := pc_ HB.out hx0
      replace hx1 := pc_ HB.out hx1
      replace hx2 := pc_ HB.out hx2
      replace hx3 := pc_ HB.out hx3
      replace p0 := eq_true p0
      replace q1 := eq_true q1
      have q0 : ((ji9) : Int) ≤ ((l2.length : Int) : Int) := ofd_
      obtain ⟨i016, hi0, _, hsz16, _⟩ := info_parts info29
      have hroom16 : l2.length ≤ c2 := HC2.out
      have hC16 : Kd.C k29 _ (some ad0) l2.length l2 := HR2.out
      have q2 : (0 : Int) ≤ ((ji9) : Int) := ofd_
      have hcut16 := cut_from (P := Try.prog) 49 29 .i64 Try.underlying49 hi0 4 hsz16 (some ad0) l2.length c2 (ji9) q2 q0
      have hr16 := Kd.C_drop (m := ((ji9) : Int).toNat) (c := c2) hC16 (by omega) hroom16
      obtain ⟨A0, hA16⟩ : ∃ A2, A2 = (if c2 = ((ji9) : Int).toNat then (some ad0) else ((some ad0) : Option Addr).map (·.add (((ji9) : Int).toNat * 4))) := ⟨_, rfl⟩
      obtain ⟨c13, hc16⟩ : ∃ c14, c14 = c2 - ((ji9) : Int).toNat := ⟨_, rfl⟩
      have hy0 : y0.length = l2.length - ((ji9) : Int).toNat := (by rw [Ny0.out, List.length_drop] <;> omega)
      rw [show (l2).drop ((ji9) : Int).toNat = y0 from Ny0.out.symm] at hr16
      replace hr16 : Kd.C k29 _ A0 y0.length y0 := (by rw [hA16]; exact hr16)
      rw [← hy0, ← hA16, ← hc16] at hcut16
      have HR922 := a_ hr16
      have HC922 := a_ (show y0.length ≤ c13 from by rw [hy0, hc16]; exact Nat.sub_le_sub_right hroom16 _)
      clear hr16 hC16 hroom16 hi0 hsz16 hc16
      have KY16 := a_ hy0
      have KA16 := a_ hA16
      clear hy0 hA16
      replace q0 := eq_true q0
      refine start_ (n := 14) (S := fun w' => w'.cell? (ad0.add ((x0).toNat * 4)) = some (.int .u64 ((rd_T29 l2 x0).f0)) ∧ w'.cell? ⟨(ad0.add ((x0).toNat * 4)).block, (ad0.add ((x0).toNat * 4)).off + 1, none⟩ = some (.int .u64 ((rd_T29 l2 x0).f1)) ∧ w'.cell? ⟨(ad0.add ((x0).toNat * 4)).block, (ad0.add ((x0).toNat * 4)).off + 2, none⟩ = some (.int .u64 ((rd_T29 l2 x0).f2)) ∧ w'.cell? ⟨(ad0.add ((x0).toNat * 4)).block, (ad0.add ((x0).toNat * 4)).off + 3, none⟩ = some (.int .u64 ((rd_T29 l2 x0).f3))) (ds := []) #[false, false, false, false, false, false, false, false, false, false, false, false, false, false] (by kernel_rfl) rfl rfl ⟨(pc_ HB.out hw0), (pc_ HB.out hw1), (pc_ HB.out hw2), (pc_ HB.out hw3)⟩ (fun hHeld => ?_); refine with_tabW impl_peaksRow.tab6 impl_peaksRow.bits6 (fun HT HW_ => ?_)
      generalize wc.drew = w1 at HO_0 HB HR922 hx0 hx1 hx2 hx3 hHeld ⊢
      refine qP_ 0 24 14 1 ?_
      refine qP_ 1 25 14 3 ?_
      refine qP_ 2 26 14 7 ?_
      refine qP_ 3 27 14 15 ?_
      refine qP_ 5 29 14 47 ?_
      refine qP_ 6 30 14 111 ?_
      refine qP_ 7 31 14 239 ?_
      refine qP_ 8 32 14 495 ?_
      refine qT_ 4 28 14 511 ?_
      refine oneP_ 9 (some 33) (b_ 14 1023) HT (fun K hK => ?_)
      refine goN_ Try.func69 #[.slice A0 y0.length c13] ?_
      with_reducible refine (impl_PeaksRoot.calls _ _ _ _ _ _ _ _ _ ?side1 ?side2 A3.out).mono ?_
      (case side1 => exact cU_ (Kd.C_below HR922.out HB.out))
      (case side2 => exact HC922.out)
      rintro e w2 ⟨rfl, hb⟩
      refine ⟨_, rfl, ?_⟩
      replace HO_0 := rb_ HO_0.out hb
      replace HB := s_ hb
      (try clear hb)
      refine hK.out _ _ ⟨(pc_ HB.out hw0), (pc_ HB.out hw1), (pc_ HB.out hw2), (pc_ HB.out hw3)⟩ (fun hHeld => ?_)
      clear hK K
      refine normP_ (some 33) ?_
      refine oneP_ 10 (some 34) (b_ 14 2047) HT (fun K hK => ?_)
      refine goN_ Try.func98 #[.agg #[.int .u64 ((rd_T29 l2 x0).f0), .int .u64 ((rd_T29 l2 x0).f1), .int .u64 ((rd_T29 l2 x0).f2), .int .u64 ((rd_T29 l2 x0).f3)], .agg #[.int .u64 t1, .int .u64 t2, .int .u64 t3, .int .u64 t4]] ?_
      with_reducible refine (impl_pairText.calls _ _ _ _ _ _ _ _ _ _ _ A4.out).mono ?_
      rintro e w3 ⟨rfl, hb⟩
      refine ⟨_, rfl, ?_⟩
      replace HO_0 := rb_ HO_0.out hb
      replace HB := s_ hb
      (try clear hb)
      refine hK.out _ _ ⟨(pc_ HB.out hw0), (pc_ HB.out hw1), (pc_ HB.out hw2), (pc_ HB.out hw3)⟩ (fun hHeld => ?_)
      clear hK K
      refine normP_ (some 34) ?_
      refine oneP_ 11 (some 35) (b_ 14 4095) HT (fun K hK => ?_)
      refine value_ (w1 := ?_) (v := ?_) (by rfl) rfl ?_ ?_
      rotate_left 2
      ·go_simp
       constructor
       ·rfl
       ·rfl
      refine hK.out _ _ ⟨(World.cell?_alloc_lt _ _ _ (World.block_lt_of_cell? _ _ ((pc_ HB.out hw0)))).trans ((pc_ HB.out hw0)), (World.cell?_alloc_lt _ _ _ (World.block_lt_of_cell? _ _ ((pc_ HB.out hw1)))).trans ((pc_ HB.out hw1)), (World.cell?_alloc_lt _ _ _ (World.block_lt_of_cell? _ _ ((pc_ HB.out hw2)))).trans ((pc_ HB.out hw2)), (World.cell?_alloc_lt _ _ _ (World.block_lt_of_cell? _ _ ((pc_ HB.out hw3)))).trans ((pc_ HB.out hw3))⟩ (fun hHeld => ?_)
      clear hK K
      refine normP_ (some 35) ?_
      refine oneP_ 12 (some 36) (b_ 14 8191) HT (fun K hK => ?_)
      refine Kd.R_append_step Kd.string (w0 := w) w.heap.size (by rfl) (.tmp 24) (.tmp 35) 61 9 (.string ⟨#[]⟩) 16 rfl Try.underlying61 info9 rfl (by decide) (by omega) u7 x2 t0 [.string t0] (fun _ => True) (fun _ => False) rfl rfl ?aP (fun _ hk => hk.elim) ?aF ?aO ?aB ?aS ?aL ?_
      (case aP => exact rfl)
      (case aB => exact bel_)
      (case aF => exact (fun _ _ => trivial))
      (case aO => exact (kdU_ HO_0.out))
      (case aS => exact (below_size bel_))
      (case aL => have := LMc0.out; omega)
      intro v5 w4 ho hb hg hat
      rw [← Ny1.out] at ho
      replace HB := a_ (hb)
      have HO0 := a_ (ho)
      clear HO_0
      clear ho hb hg hat
      refine hK.out _ _ ⟨(pc_ HB.out hw0), (pc_ HB.out hw1), (pc_ HB.out hw2), (pc_ HB.out hw3)⟩ (fun hHeld => ?_)
      clear hK K
      refine normP_ (some 36) ?_
      refine qP_ 13 7 14 16383 ?_
      refine done_ (done_of HT.out (by kernel_rfl)) ?_
      try go_wp2
      go_loopg [11] kj0 (fun kq v0 w' => ∃ (x3 : Int), v0 = .int .i64 x3 ∧ Aside0 (impl_peaksRow.l1 kq a0 a1 l2 y1 x1 x0 (wrap64 (a0 - x1)) x3 = some r) ∧ Aside0 (kq ≤ kj0) ∧ Aside0 (Kd.R Kd.string 9 w' w.heap.size (fun _ => True) v5 y1) ∧ Aside0 (Below w.heap.size w w'))
      case atStart => exact ⟨(1), rl_, H', ⟨Nat.le_refl _⟩, ⟨kdU_ HO0.out⟩, ⟨bel_⟩⟩
      case round =>
       clear H'
       (try clear c14); (try clear c2); (try clear c5); (try clear c0); (try clear c6); (try clear c7); (try clear c20); (try clear c8); (try clear c21); (try clear c10); (try clear c15); (try clear c16); (try clear c11); (try clear c17); (try clear c18); (try clear c12); (try clear c13); (try clear q0); (try clear hx0); (try clear hx1); (try clear hx2); (try clear hx3); (try clear p0); (try clear q2); (try clear q1)
       obtain ⟨x3, rfl, HA, HK3, HO_0, HB⟩ := hrel
       cases gk with
       | zero => exact absurd HA.out (by simp [impl_peaksRow.l1])
       | succ k3 =>
        have H := HA.out
        clear HA
        simp only [impl_peaksRow.l1] at H
        by_cases c1 : (wrap64 (2 * x3)) ≤ (wrap64 (a0 - x1))
        ·rw [if_pos c1] at H
         have c19 := decide_eq_true c1
         clear c1
         have H' := a_ H
         clear H
         go_wp2
         go_roundg k3
         case measure => have := HK1.out; have := HJ3.out; have := HK3.out; omega
         case rel => exact ⟨(wrap64 (x3 * 2)), rl_, H', ⟨by have := HK1.out; have := HJ3.out; have := HK3.out; omega⟩, ⟨kdU_ HO_0.out⟩, ⟨bel_⟩⟩
        ·rw [if_neg c1] at H
         have c19 := decide_eq_false c1
         clear c1
         have H' := a_ H
         clear H
         go_wp2
         go_roundg k3
         case measure => have := HK1.out; have := HJ3.out; have := HK3.out; omega
         case rel => exact ⟨(y1), (wrap64 (x1 + x3)), (wrap64 (x0 + 1)), rl_, rl_, H', ⟨by have := HK1.out; have := HJ3.out; have := HK3.out; omega⟩, ⟨kdU_ HO_0.out⟩, ⟨bel_⟩⟩
     ·replace c6 := Bool.eq_false_iff.mpr c6
      subst c6
      rw [if_neg (show ¬ (false = true) by decide)] at H
      obtain rfl := Option.some.inj H
      go_wp2
      go_ret
      exact ⟨_, rfl_, uR_ HO_0.out, bel_⟩
end
section
attribute [local go_sem high] eqA29
def spec_PathCheck.f (k : Nat) (a0 a1 a2 a3 a4 a5 : Int) (a6 : ByteArray) (l3 : List (S29)) : Option (Bool) := (spec_PathRoot.f k a0 a5 a6 l3).bind fun bt0 => (if bt0.2.2.2.2 = true then (some (bt0.1 == a1 && (bt0.2.1 == a2 && (bt0.2.2.1 == a3 && (bt0.2.2.2.1 == a4))))) else (some false))
theorem spec_PathCheck.calls (k : Nat) (a0 a1 a2 a3 a4 a5 : Int) (a6 : ByteArray) (A0 : Option Addr) (c3 : Nat) (l3 : List (S29)) (r : Bool) (w : World) (hr3 : Kd.C k29 w A0 l3.length l3) (hc3 : l3.length ≤ c3) (h : spec_PathCheck.f k a0 a1 a2 a3 a4 a5 a6 l3 = some r) :
  Calls Try.prog 46 #[.agg #[.int .i64 a0, .int .u64 a1, .int .u64 a2, .int .u64 a3, .int .u64 a4], .int .i64 a5, .string a6, .slice A0 l3.length c3] w fun e w' => e = .returned (.bool r) ∧ Below w.heap.size w w' := by
 have hu31 := Try.underlying31
 have hu29 := Try.underlying29
 have HR3 := a_ hr3
 have HC3 := a_ hc3
 clear hr3 hc3
 have HB := rB_ w
 have H := h
 unfold spec_PathCheck.f at H
 clear h
 obtain ⟨⟨t1, t2, t3, t4, t0⟩, A1, H⟩ := bnd_ H
 dsimp only at H
 by_cases c6 : t0 = true
 ·subst c6
  rw [if_pos rfl] at H
  obtain rfl := Option.some.inj H
  go_enter Try.func46, Try.ntmps46
  go_wp2_with (first | (refine bx_ 4 #[.int .i64 a0, .int .u64 a1, .int .u64 a2, .int .u64 a3, .int .u64 a4] 31 ?_; intro gb0 w5 hg hb BK0 GW0; replace HB := s_ hb; clear hb hg; obtain ⟨z18, z19, z20, z21, z22, f18, f19, f20, f21, f22⟩ := cz5_ BK0.out) | (refine gcB_ 86 17 Try.func86 (spec_PathRoot.calls _ _ _ _ _ _ _ _ _ _ _ _ _ ?side1 ?side2 A1.out) ?_; (case side1 => exact cU_ (Kd.C_below HR3.out HB.out)); (case side2 => exact HC3.out); intro w6 hb; replace BK0 := bb_ BK0.out hb; replace HB := s_ hb; clear hb) | (refine bx_ 9 #[.int .u64 0, .int .u64 0, .int .u64 0, .int .u64 0] 29 ?_; intro gb1 w1 hg hb BK1 GW1; replace HB := s_ hb; obtain ⟨NB0, NB1⟩ := ne2_ BK0.out hg; replace BK0 := bb_ BK0.out hb; clear hb hg; have hnb0 := NB1.out; have hnc0 := NB0.out; obtain ⟨z0, z1, z2, z3, f0, f1, f2, f3⟩ := cz4_ BK1.out; obtain ⟨z4, z5, z6, z7, z8, f4, f5, f6, f7, f8⟩ := cz5_ BK0.out))
  go_ret
  exact ⟨rfl_, bel_⟩
 ·replace c6 := Bool.eq_false_iff.mpr c6
  subst c6
  rw [if_neg (show ¬ (false = true) by decide)] at H
  obtain rfl := Option.some.inj H
  go_enter Try.func46, Try.ntmps46
  go_wp2_with (first | (refine bx_ 4 #[.int .i64 a0, .int .u64 a1, .int .u64 a2, .int .u64 a3, .int .u64 a4] 31 ?_; intro gb0 w2 hg hb BK0 GW0; replace HB := s_ hb; clear hb hg; obtain ⟨z9, z10, z11, z12, z13, f9, f10, f11, f12, f13⟩ := cz5_ BK0.out) | (refine gcB_ 86 17 Try.func86 (spec_PathRoot.calls _ _ _ _ _ _ _ _ _ _ _ _ _ ?side1 ?side2 A1.out) ?_; (case side1 => exact cU_ (Kd.C_below HR3.out HB.out)); (case side2 => exact HC3.out); intro w3 hb; replace BK0 := bb_ BK0.out hb; replace HB := s_ hb; clear hb) | (refine bx_ 9 #[.int .u64 0, .int .u64 0, .int .u64 0, .int .u64 0] 29 ?_; intro gb1 w4 hg hb BK1 GW1; replace HB := s_ hb; obtain ⟨NB0, NB1⟩ := ne2_ BK0.out hg; replace BK0 := bb_ BK0.out hb; clear hb hg; have hnb1 := NB1.out; have hnc1 := NB0.out; obtain ⟨z14, z15, z16, z17, f14, f15, f16, f17⟩ := cz4_ BK1.out))
  go_ret
  exact ⟨rfl_, bel_⟩
end
section
attribute [local go_sem high] eqA29
def impl_PathCheck.f (k : Nat) (a0 a1 a2 a3 a4 a5 : Int) (a6 : ByteArray) (l3 : List (S29)) : Option (Bool) := (impl_PathRoot.f k a0 a5 a6 l3).bind fun bt0 => (if bt0.2.2.2.2 = true then (some (bt0.1 == a1 && (bt0.2.1 == a2 && (bt0.2.2.1 == a3 && (bt0.2.2.2.1 == a4))))) else (some false))
theorem impl_PathCheck.calls (k : Nat) (a0 a1 a2 a3 a4 a5 : Int) (a6 : ByteArray) (A0 : Option Addr) (c3 : Nat) (l3 : List (S29)) (r : Bool) (w : World) (hr3 : Kd.C k29 w A0 l3.length l3) (hc3 : l3.length ≤ c3) (h : impl_PathCheck.f k a0 a1 a2 a3 a4 a5 a6 l3 = some r) :
  Calls Try.prog 51 #[.agg #[.int .i64 a0, .int .u64 a1, .int .u64 a2, .int .u64 a3, .int .u64 a4], .int .i64 a5, .string a6, .slice A0 l3.length c3] w fun e w' => e = .returned (.bool r) ∧ Below w.heap.size w w' := by
 have hu31 := Try.underlying31
 have hu29 := Try.underlying29
 have HR3 := a_ hr3
 have HC3 := a_ hc3
 clear hr3 hc3
 have HB := rB_ w
 have H := h
 unfold impl_PathCheck.f at H
 clear h
 obtain ⟨⟨t1, t2, t3, t4, t0⟩, A1, H⟩ := bnd_ H
 dsimp only at H
 by_cases c6 : t0 = true
 ·subst c6
  rw [if_pos rfl] at H
  obtain rfl := Option.some.inj H
  go_enter Try.func51, Try.ntmps51
  go_wp2_with (first | (refine bx_ 4 #[.int .i64 a0, .int .u64 a1, .int .u64 a2, .int .u64 a3, .int .u64 a4] 31 ?_; intro gb0 w5 hg hb BK0 GW0; replace HB := s_ hb; clear hb hg; obtain ⟨z18, z19, z20, z21, z22, f18, f19, f20, f21, f22⟩ := cz5_ BK0.out) | (refine gcB_ 95 17 Try.func95 (impl_PathRoot.calls _ _ _ _ _ _ _ _ _ _ _ _ _ ?side1 ?side2 A1.out) ?_; (case side1 => exact cU_ (Kd.C_below HR3.out HB.out)); (case side2 => exact HC3.out); intro w6 hb; replace BK0 := bb_ BK0.out hb; replace HB := s_ hb; clear hb) | (refine bx_ 9 #[.int .u64 0, .int .u64 0, .int .u64 0, .int .u64 0] 29 ?_; intro gb1 w1 hg hb BK1 GW1; replace HB := s_ hb; obtain ⟨NB0, NB1⟩ := ne2_ BK0.out hg; replace BK0 := bb_ BK0.out hb; clear hb hg; have hnb0 := NB1.out; have hnc0 := NB0.out; obtain ⟨z0, z1, z2, z3, f0, f1, f2, f3⟩ := cz4_ BK1.out; obtain ⟨z4, z5, z6, z7, z8, f4, f5, f6, f7, f8⟩ := cz5_ BK0.out))
  go_ret
  exact ⟨rfl_, bel_⟩
 ·replace c6 := Bool.eq_false_iff.mpr c6
  subst c6
  rw [if_neg (show ¬ (false = true) by decide)] at H
  obtain rfl := Option.some.inj H
  go_enter Try.func51, Try.ntmps51
  go_wp2_with (first | (refine bx_ 4 #[.int .i64 a0, .int .u64 a1, .int .u64 a2, .int .u64 a3, .int .u64 a4] 31 ?_; intro gb0 w2 hg hb BK0 GW0; replace HB := s_ hb; clear hb hg; obtain ⟨z9, z10, z11, z12, z13, f9, f10, f11, f12, f13⟩ := cz5_ BK0.out) | (refine gcB_ 95 17 Try.func95 (impl_PathRoot.calls _ _ _ _ _ _ _ _ _ _ _ _ _ ?side1 ?side2 A1.out) ?_; (case side1 => exact cU_ (Kd.C_below HR3.out HB.out)); (case side2 => exact HC3.out); intro w3 hb; replace BK0 := bb_ BK0.out hb; replace HB := s_ hb; clear hb) | (refine bx_ 9 #[.int .u64 0, .int .u64 0, .int .u64 0, .int .u64 0] 29 ?_; intro gb1 w4 hg hb BK1 GW1; replace HB := s_ hb; obtain ⟨NB0, NB1⟩ := ne2_ BK0.out hg; replace BK0 := bb_ BK0.out hb; clear hb hg; have hnb1 := NB1.out; have hnc1 := NB0.out; obtain ⟨z14, z15, z16, z17, f14, f15, f16, f17⟩ := cz4_ BK1.out))
  go_ret
  exact ⟨rfl_, bel_⟩
end
section
def laws_toGrowth.f (k : Nat) (a0 a1 a2 a3 a4 : Int) (l3 : List (S24)) : Option (Int × Int × Int × Int × Int × (List (S29))) := (laws_toPoint.f a0 a1 a2 a3 a4).bind fun bt0 => ((laws_toDigestS.f k l3).bind fun t0 => (some (bt0.1, bt0.2.1, bt0.2.2.1, bt0.2.2.2.1, bt0.2.2.2.2, t0)))
theorem laws_toGrowth.calls (k : Nat) (a0 a1 a2 a3 a4 : Int) (A0 : Option Addr) (c0 : Nat) (l3 : List (S24)) (r0 r1 r2 r3 r4 : Int) (r5 : List (S29)) (w : World) (hr0_5 : Kd.C k24 w A0 l3.length l3) (hc0_5 : l3.length ≤ c0) (h : laws_toGrowth.f k a0 a1 a2 a3 a4 l3 = some (r0, r1, r2, r3, r4, r5)) :
  Calls Try.prog 20 #[.agg #[.int .i64 a0, .int .u64 a1, .int .u64 a2, .int .u64 a3, .int .u64 a4, .slice A0 l3.length c0]] w fun e w' => ∃ v5_ : Value, e = .returned (.agg #[.int .i64 r0, .int .u64 r1, .int .u64 r2, .int .u64 r3, .int .u64 r4, v5_]) ∧ Kd.R k29 29 w' w.heap.size (fun _ => True) v5_ r5 ∧ Below w.heap.size w w' := by
 have hu42 := Try.underlying42
 have hu51 := Try.underlying51
 have hu26 := Try.underlying26
 have hu31 := Try.underlying31
 have HR0_5 := a_ hr0_5
 have HC0_5 := a_ hc0_5
 clear hr0_5 hc0_5
 have HB := rB_ w
 have H := h
 unfold laws_toGrowth.f at H
 clear h
 obtain ⟨⟨t0, t1, t2, t3, t4⟩, A1, H⟩ := bnd_ H
 dsimp only at H
 obtain ⟨t5, A2, H⟩ := bnd_ H
 simp only [Option.some.injEq, Prod.mk.injEq] at H
 obtain ⟨rfl, rfl, rfl, rfl, rfl, rfl⟩ := H
 go_enter Try.func20, Try.ntmps20
 go_wp2_with (first | (refine bx_ 1 #[.int .i64 a0, .int .u64 a1, .int .u64 a2, .int .u64 a3, .int .u64 a4, .slice A0 l3.length c0] 42 ?_; intro gb2 w3 hg hb BK0 GW0; replace HB := s_ hb; clear hb hg) | (refine bx_ 2 #[.int .i64 0, .int .u64 0, .int .u64 0, .int .u64 0, .int .u64 0, .slice none 0 0] 51 ?_; intro gb0 w4 hg hb BK1 GW1; replace HB := s_ hb; obtain ⟨NB0, NB2⟩ := ne2_ BK0.out hg; replace BK0 := bb_ BK0.out hb; clear hb hg) | (refine bx_ 3 #[.int .i64 0, .int .u64 0, .int .u64 0, .int .u64 0, .int .u64 0, .slice none 0 0] 51 ?_; intro gb1 w5 hg hb BK2 GW2; replace HB := s_ hb; obtain ⟨NB1, NB4⟩ := ne2_ BK0.out hg; replace BK0 := bb_ BK0.out hb; obtain ⟨NB3, NB5⟩ := ne2_ BK1.out hg; replace BK1 := bb_ BK1.out hb; clear hb hg; have hnb1 := NB0.out; have hnc1 := NB2.out; have hnb2 := NB1.out; have hnc2 := NB4.out; obtain ⟨z25, z27, z28, z30, z32, z33, f24, f25, f26, f27, f28, f29⟩ := cz6_ BK0.out) | (refine gcB_ 12 6 Try.func12 (laws_toPoint.calls _ _ _ _ _ _ _ _ _ _ _ A1.out) ?_; intro w1 hb; replace BK0 := bb_ BK0.out hb; replace BK1 := bb_ BK1.out hb; replace BK2 := bb_ BK2.out hb; replace HB := s_ hb; clear hb; have hnb0 := NB5.out; have hnc0 := NB3.out; obtain ⟨z0, z1, z2, z3, z4, z5, f0, f1, f2, f3, f4, f5⟩ := cz6_ BK2.out; obtain ⟨z6, z7, z8, z9, z10, z11, f6, f7, f8, f9, f10, f11⟩ := cz6_ BK0.out) | (refine gcL_ 21 (some 10) Try.func21 #[.slice A0 l3.length c0] ?_; (with_reducible refine (laws_toDigestS.calls _ _ _ _ _ _ ?side1 ?side2 A2.out).mono ?_); (case side1 => exact Kd.C_below HR0_5.out bel_); (case side2 => exact HC0_5.out); rintro e w2 ⟨v0, rfl, ho0, hb⟩; refine ⟨_, rfl, ?_⟩; have HO0 := a_ (Kd.R_lower ho0 (below_size bel_)); replace BK0 := bb_ BK0.out hb; replace BK1 := bb_ BK1.out hb; replace BK2 := blkPB_ (cs := #[.int .i64 t0, .int .u64 t1, .int .u64 t2, .int .u64 t3, .int .u64 t4, .slice none 0 0]) BK2.out hb; replace HB := s_ hb; clear hb; (try clear ho0); obtain ⟨Ao0, co0, eo0⟩ := Kd.R_slice HO0.out; subst eo0; obtain ⟨z12, z13, z14, z15, z16, z17, f12, f13, f14, f15, f16, f17⟩ := cz6_ BK2.out; obtain ⟨z18, z19, z20, z21, z22, z23, f18, f19, f20, f21, f22, f23⟩ := cz6_ BK1.out))
 refine bodyPost_ret (results_cell_row rfl _ _ gb0 51 #[.int .i64 t0, .int .u64 t1, .int .u64 t2, .int .u64 t3, .int .u64 t4, .slice Ao0 t5.length co0] (0, 0) _ rfl (blkF_ BK1.out) Try.underlying51 rfl (by kernel_rfl)) rfl ?_
 exact ⟨_, rfl_, uR_ (Kd.R_mono (Kd.R_far (p := ⟨gb0, 5, none⟩) (Kd.R_far (p := ⟨gb0, 4, none⟩) (Kd.R_far (p := ⟨gb0, 3, none⟩) (Kd.R_far (p := ⟨gb0, 2, none⟩) (Kd.R_far (p := ⟨gb0, 1, none⟩) (Kd.R_far (p := ⟨gb0, 0, none⟩) (Kd.R_far (p := ⟨gb1, 5, none⟩) (Kd.R_types (Kd.R_types HO0.out BK2.out (by decide)) BK1.out (by decide)) (fun _ hk => hk.1.2) (.slice Ao0 t5.length co0)) (fun _ hk => hk.2) (.int .i64 t0)) (fun _ hk => hk.2) (.int .u64 t1)) (fun _ hk => hk.2) (.int .u64 t2)) (fun _ hk => hk.2) (.int .u64 t3)) (fun _ hk => hk.2) (.int .u64 t4)) (fun _ hk => hk.2) (.slice Ao0 t5.length co0)) (fun _ hk => trivial)), bel_⟩
end
section
def spec_l3PeaksAhead.l0 : Nat → Int → Int → Int → Int → Option (Int)
 | 0, _, _, _, _ => none
 | k + 1, x1, x3, x2, x0 => if x0 < x1 then (if x0 < x3 then ((spec_l2Half.f k (wrap64 (x1 - x0))).bind fun t0 => (spec_l3PeaksAhead.l0 k x1 x3 (wrap64 (x2 + 1)) (wrap64 (x0 + t0)))) else (some x2)) else (some x2)
def spec_l3PeaksAhead.f (k : Nat) (a0 a1 : Int) : Option (Int) := spec_l3PeaksAhead.l0 k a0 a1 0 0
theorem spec_l3PeaksAhead.calls (k : Nat) (a0 a1 r : Int) (w : World) (h : spec_l3PeaksAhead.f k a0 a1 = some r) :
  Calls Try.prog 120 #[.int .i64 a0, .int .i64 a1] w fun e w' => e = .returned (.int .i64 r) ∧ Drawn0 w w' := by
 have H := h
 unfold spec_l3PeaksAhead.f at H
 clear h
 have H' := a_ H
 clear H
 go_enter Try.func120, Try.ntmps120
 go_wp2
 go_loopg [5, 6] k (fun kq v0 v1 w' => ∃ (x1 x0 : Int), v0 = .int .i64 x1 ∧ v1 = .int .i64 x0 ∧ Aside0 (spec_l3PeaksAhead.l0 kq a0 a1 x1 x0 = some r) ∧ Aside0 (kq ≤ k) ∧ Drawn0 w w')
 case atStart => exact ⟨(0), (0), rl_, rl_, H', ⟨Nat.le_refl _⟩, by repeat (first | exact Drawn0.refl _ | apply Drawn0.step)⟩
 case round =>
  clear H'
  obtain ⟨x1, x0, rfl, rfl, HA, HK1, ⟨m1, rfl⟩⟩ := hrel
  cases gk with
  | zero => exact absurd HA.out (by simp [spec_l3PeaksAhead.l0])
  | succ k1 =>
   have H := HA.out
   clear HA
   simp only [spec_l3PeaksAhead.l0] at H
   by_cases c3 : x0 < a0
   ·rw [if_pos c3] at H
    have c0 := decide_eq_true c3
    clear c3
    by_cases c4 : x0 < a1
    ·rw [if_pos c4] at H
     have c1 := decide_eq_true c4
     clear c4
     obtain ⟨t0, A0, H⟩ := bnd_ H
     have H' := a_ H
     clear H
     go_wp2_with (first | (refine gcD_ 93 19 Try.func93 (spec_l2Half.calls _ _ _ _ A0.out) ?_; intro nd))
     go_roundg k1
     case measure => have := HK1.out; omega
     case rel => exact ⟨(wrap64 (x1 + 1)), (wrap64 (x0 + t0)), rl_, rl_, H', ⟨by have := HK1.out; omega⟩, by repeat (first | exact Drawn0.refl _ | apply Drawn0.step)⟩
    ·rw [if_neg c4] at H
     have c1 := decide_eq_false c4
     clear c4
     obtain rfl := Option.some.inj H
     go_wp2
     go_ret
     exact ⟨rl_, dr_⟩
   ·rw [if_neg c3] at H
    have c0 := decide_eq_false c3
    clear c3
    obtain rfl := Option.some.inj H
    go_wp2
    go_ret
    exact ⟨rl_, dr_⟩
end
end
end Go.Proofs.Ytflckegggopdnaa.B
