/- Texts that this claim's law leans on, without what nothing names. What each says stands at its theorems; conditions stand in them. (Put together by the session's program shake.py; Lean checks it.) -/
import Derived.Test.YtflckegggopdnaaZCHP0
import Derived.Test.YtflckegggopdnaaZCHP3
import Derived.Test.YtflckegggopdnaaZCHP4
import Derived.Test.YtflckegggopdnaaZCHGSpecHash1
import Derived.Test.YtflckegggopdnaaZCHP9
import Derived.Test.YtflckegggopdnaaZCHP2
namespace Go.Proofs.Ytflckegggopdnaa.B
section
open Go.RowKit Go.Proofs.YtflckegggopdnaaW.PrintWords Go.Proofs.YtflckegggopdnaaW.PrintLast Go.Proofs.YtflckegggopdnaaW.PrintMore
attribute [local go_sem] max2_int min2_int max_two min_two max_three min_three max_four min_four
set_option linter.unusedVariables false
set_option maxHeartbeats 8000000
set_option maxRecDepth 100000
set_option linter.unusedSimpArgs false
section
def spec_PeaksRoot.l0 : Nat → List (S29) → Int → Int → Int → Int → Int → Option (Int × Int × Int × Int)
 | 0, _, _, _, _, _, _ => none
 | k + 1, x0, x4, x180000, x180001, x180002, x180003 => if x4 ≥ 0 then (if 0 ≤ x4 then (if x4 < (x0.length : Int) then ((spec_HashPair.f k ((rd_T29 x0 x4).f0) ((rd_T29 x0 x4).f1) ((rd_T29 x0 x4).f2) ((rd_T29 x0 x4).f3) x180000 x180001 x180002 x180003).bind fun bt181 => (spec_PeaksRoot.l0 k x0 (wrap64 (x4 - 1)) bt181.1 bt181.2.1 bt181.2.2.1 bt181.2.2.2)) else (none)) else (none)) else (some (x180000, x180001, x180002, x180003))
def spec_PeaksRoot.f (k : Nat) (l0 : List (S29)) : Option (Int × Int × Int × Int) := if (l0.length : Int) > 8 then (some (0, 0, 0, 0)) else (if (l0.length : Int) = 0 then ((spec_HashOf.f k (⟨#[]⟩ : ByteArray)).bind fun bt174 => (some (bt174.1, bt174.2.1, bt174.2.2.1, bt174.2.2.2))) else (if 0 ≤ (wrap64 ((l0.length : Int) - 1)) then (if (wrap64 ((l0.length : Int) - 1)) < (l0.length : Int) then (spec_PeaksRoot.l0 k l0 (wrap64 ((l0.length : Int) - 2)) ((rd_T29 l0 (wrap64 ((l0.length : Int) - 1))).f0) ((rd_T29 l0 (wrap64 ((l0.length : Int) - 1))).f1) ((rd_T29 l0 (wrap64 ((l0.length : Int) - 1))).f2) ((rd_T29 l0 (wrap64 ((l0.length : Int) - 1))).f3)) else (none)) else (none)))
theorem spec_PeaksRoot.calls (k : Nat) (A0 : Option Addr) (c0 : Nat) (l0 : List (S29)) (r1 r2 : Int) (r3 r4 : Int) (w : World) (hr0 : Kd.C k29 w A0 l0.length l0) (hc0 : l0.length ≤ c0) (h : spec_PeaksRoot.f k l0 = some (r1, r2, r3, r4)) :
  Calls Try.prog 73 #[.slice A0 l0.length c0] w fun e w' => e = .returned (.agg #[.int .u64 r1, .int .u64 r2, .int .u64 r3, .int .u64 r4]) ∧ Below w.heap.size w w' := by
 have hu29 := Try.underlying29
 have HR0 := Aside0.mk hr0
 have HC0 := Aside0.mk hc0
 clear hr0 hc0
 have HB := a_ (Below.refl w.heap.size w)
 have H := h
 unfold spec_PeaksRoot.f at H
 clear h
 by_cases c2 : (l0.length : Int) > 8
 ·rw [if_pos c2] at H
  have c2b0 : decide (8 < (l0.length : Int)) = true := decide_eq_true c2
  have c2b1 : decide (8 < l0.length) = true := decide_eq_true (by omega)
  clear c2
  simp only [Option.some.injEq, Prod.mk.injEq] at H
  obtain ⟨rfl, rfl, rfl, rfl⟩ := H
  go_enter Try.func73, Try.ntmps73
  go_wp2_with (first | ((with_reducible refine gate_dst (N := 2) rfl ?_); refine boxE_ (cs := #[.int .u64 0, .int .u64 0, .int .u64 0, .int .u64 0]) (t := 29) ?_; intro gb173 hg w3 hbox hb; have BK173 := a_ (hbox); have GW173 := sizeB_ hg; replace HB := stepB_ hb; clear hb hbox hg; obtain ⟨z4_0, z4_1, z4_2, z4_3, f4_0, f4_1, f4_2, f4_3⟩ := cz4_ BK173.out))
  refine bodyPost_ret (results_cell_row rfl _ _ gb173 29 #[.int .u64 0, .int .u64 0, .int .u64 0, .int .u64 0] (0, 0) _ rfl (blkF_ BK173.out) Try.underlying29 rfl (by kernel_rfl)) rfl ?_
  exact ⟨rfl_, bel_⟩
 ·rw [if_neg c2] at H
  have c2b0 : decide (8 < (l0.length : Int)) = false := decide_eq_false c2
  have c2b1 : decide (8 < l0.length) = false := decide_eq_false (by omega)
  clear c2
  by_cases c5 : (l0.length : Int) = 0
  ·rw [if_pos c5] at H
   have c5b0 := beq_iff_eq.mpr c5
   have c5b1 := bne_eq_false_iff_eq.mpr c5
   clear c5
   obtain ⟨⟨t174, t175, t176, t177⟩, A6, H⟩ := bnd_ H
   dsimp only at H
   simp only [Option.some.injEq, Prod.mk.injEq] at H
   obtain ⟨rfl, rfl, rfl, rfl⟩ := H
   go_enter Try.func73, Try.ntmps73
   go_wp2_with (first | ((with_reducible refine gate_dst (N := 2) rfl ?_); refine boxE_ (cs := #[.int .u64 0, .int .u64 0, .int .u64 0, .int .u64 0]) (t := 29) ?_; intro gb173 hg w7 hbox hb; have BK173 := a_ (hbox); have GW173 := sizeB_ hg; replace HB := stepB_ hb; clear hb hbox hg) | (refine gcL_ 72 (some 12) Try.func72 #[.string (⟨#[]⟩ : ByteArray)] ?_; (with_reducible refine (spec_HashOf.calls k (⟨#[]⟩ : ByteArray) t174 t175 t176 t177 _ A6.out).mono ?_); rintro e w8 ⟨rfl, hb⟩; refine ⟨_, rfl, ?_⟩; replace BK173 := bb_ BK173.out hb; replace HB := stepB_ hb; (try clear hb); obtain ⟨z9_0, z9_1, z9_2, z9_3, f9_0, f9_1, f9_2, f9_3⟩ := cz4_ BK173.out))
   refine bodyPost_ret (results_cell_row rfl _ _ gb173 29 #[.int .u64 t174, .int .u64 t175, .int .u64 t176, .int .u64 t177] (0, 0) _ rfl (blkF_ BK173.out) Try.underlying29 rfl (by kernel_rfl)) rfl ?_
   exact ⟨rfl_, bel_⟩
  ·rw [if_neg c5] at H
   have c5b0 := beq_eq_false_iff_ne.mpr c5
   have c5b1 := bne_iff_ne.mpr c5
   have c5b2 : ¬ (l0 = []) := fun h_ => c5 (by rw [h_]; rfl)
   obtain ⟨ji10, hji10⟩ : ∃ j_ : Int, (wrap64 ((l0.length : Int) - 1)) = j_ := ⟨_, rfl⟩
   replace H : (if 0 ≤ (ji10) then (if (ji10) < (l0.length : Int) then (spec_PeaksRoot.l0 k l0 (wrap64 ((l0.length : Int) - 2)) ((rd_T29 l0 (ji10)).f0) ((rd_T29 l0 (ji10)).f1) ((rd_T29 l0 (ji10)).f2) ((rd_T29 l0 (ji10)).f3)) else (none)) else (none)) = some (r1, r2, r3, r4) := by first | (rw [hji10] at H; exact H) | (simp only [hji10] at H ⊢; exact H)
   have hji10w : (IntKind.i64.wrap ((l0.length : Int) - 1)) = ji10 := (i64_w _).trans hji10
   by_cases c11 : 0 ≤ (ji10)
   ·rw [if_pos c11] at H
    have c11b0 := decide_eq_true c11
    clear c11
    by_cases c12 : (ji10) < (l0.length : Int)
    ·rw [if_pos c12] at H
     have c12b0 := decide_eq_true c12
     clear c12
     have H' := Aside0.mk H
     clear H
     go_enter Try.func73, Try.ntmps73
     go_wp2_with (first | ((with_reducible refine gate_dst (N := 2) rfl ?_); refine boxE_ (cs := #[.int .u64 0, .int .u64 0, .int .u64 0, .int .u64 0]) (t := 29) ?_; intro gb173 hg w13 hbox hb; have BK173 := a_ (hbox); have GW173 := sizeB_ hg; replace HB := stepB_ hb; clear hb hbox hg; have p178 : 0 ≤ ((ji10) : Int) := ofd_; have q178 : (ji10) < (l0.length : Int) := ofd_; obtain ⟨ad178, e178, hx178_0, hx178_1, hx178_2, hx178_3⟩ := at_T29 HR0.out (ji10) p178 q178; cases e178; replace hx178_0 := pc_ HB.out hx178_0; replace hx178_1 := pc_ HB.out hx178_1; replace hx178_2 := pc_ HB.out hx178_2; replace hx178_3 := pc_ HB.out hx178_3; replace p178 := eq_true p178; replace q178 := eq_true q178) | ((with_reducible refine gate_dst (N := 3) rfl ?_); refine boxE_ (cs := #[.int .u64 0, .int .u64 0, .int .u64 0, .int .u64 0]) (t := 29) ?_; intro gb179 hg w14 hbox hb; have BK179 := a_ (hbox); have GW179 := sizeB_ hg; replace HB := stepB_ hb; obtain ⟨NB173_179, NB179_173⟩ := ne2_ BK173.out hg; replace BK173 := bb_ BK173.out hb; clear hb hbox hg; have hnb15 := NB179_173.out; have hnc15 := NB173_179.out; obtain ⟨z16_0, z16_1, z16_2, z16_3, f16_0, f16_1, f16_2, f16_3⟩ := cz4_ BK179.out))
     go_loopg [4] k (fun kq v4 w' => ∃ (x4_1 x180000_1 : Int) (x180001_1 x180002_1 x180003_1 : Int), v4 = .int .i64 x4_1 ∧ Aside0 (spec_PeaksRoot.l0 kq l0 x4_1 x180000_1 x180001_1 x180002_1 x180003_1 = some (r1, r2, r3, r4)) ∧ Aside0 (kq ≤ k) ∧ Aside0 (w'.heap[gb173]? = some (.cells #[.int .u64 0, .int .u64 0, .int .u64 0, .int .u64 0] 29 (0, 0))) ∧ Aside0 (w'.heap[gb179]? = some (.cells #[.int .u64 x180000_1, .int .u64 x180001_1, .int .u64 x180002_1, .int .u64 x180003_1] 29 (0, 0))) ∧ Aside0 (Below w.heap.size w w'))
     case atStart => exact ⟨(wrap64 ((l0.length : Int) - 2)), ((rd_T29 l0 (ji10)).f0), ((rd_T29 l0 (ji10)).f1), ((rd_T29 l0 (ji10)).f2), ((rd_T29 l0 (ji10)).f3), rl_, H', ⟨Nat.le_refl _⟩, ⟨blkU_ BK173.out⟩, ⟨blkF_ BK179.out⟩, ⟨bel_⟩⟩
     case round =>
      clear H'
      (try clear c2); (try clear c2b0); (try clear c2b1); (try clear c5); (try clear c5b0); (try clear c5b1); (try clear c5b2); (try clear c11); (try clear c11b0); (try clear c12); (try clear c12b0); (try clear z16_0 z16_1 z16_2 z16_3); (try clear z4_0 z4_1 z4_2 z4_3); (try clear z9_0 z9_1 z9_2 z9_3); (try clear f16_0 f16_1 f16_2 f16_3); (try clear f4_0 f4_1 f4_2 f4_3); (try clear f9_0 f9_1 f9_2 f9_3); (try clear hx178_0); (try clear hx178_1); (try clear hx178_2); (try clear hx178_3); (try clear p178); (try clear q178)
      obtain ⟨x4_1, x180000_1, x180001_1, x180002_1, x180003_1, rfl, HA, HK1, BK173, BK179, HB⟩ := hrel
      cases gk with
      | zero => exact absurd HA.out (by simp [spec_PeaksRoot.l0])
      | succ k1 =>
       have H := HA.out
       clear HA
       simp only [spec_PeaksRoot.l0] at H
       by_cases c17 : x4_1 ≥ 0
       ·rw [if_pos c17] at H
        have c17b0 : decide (0 ≤ x4_1) = true := decide_eq_true c17
        clear c17
        by_cases c18 : 0 ≤ x4_1
        ·rw [if_pos c18] at H
         have c18b0 := decide_eq_true c18
         clear c18
         by_cases c19 : x4_1 < (l0.length : Int)
         ·rw [if_pos c19] at H
          have c19b0 := decide_eq_true c19
          clear c19
          obtain ⟨⟨t181, t182, t183, t184⟩, A20, H⟩ := bnd_ H
          dsimp only at H
          have H' := Aside0.mk H
          clear H
          try go_wp2
          replace BK173 := a_ (blk_drew BK173.out)
          replace BK179 := a_ (blk_drew BK179.out)
          replace HB := a_ (below_drew1 HB.out)
          have p180 : 0 ≤ (x4_1 : Int) := ofd_
          have q180 : x4_1 < (l0.length : Int) := ofd_
          obtain ⟨ad180, e180, hx180_0, hx180_1, hx180_2, hx180_3⟩ := at_T29 HR0.out x4_1 p180 q180
          have hw180_3 := hx180_3
          have hw180_2 := hx180_2
          have hw180_1 := hx180_1
          have hw180_0 := hx180_0
          obtain rfl : ad178 = ad180 := (by injection e180)
          replace hx180_0 := pc_ HB.out hx180_0
          replace hx180_1 := pc_ HB.out hx180_1
          replace hx180_2 := pc_ HB.out hx180_2
          replace hx180_3 := pc_ HB.out hx180_3
          replace p180 := eq_true p180
          replace q180 := eq_true q180
          refine start_ (n := 7) (S := fun w' => w'.cell? ⟨gb179, 0, none⟩ = some (.int .u64 x180000_1) ∧ w'.cell? ⟨gb179, 1, none⟩ = some (.int .u64 x180001_1) ∧ w'.cell? ⟨gb179, 2, none⟩ = some (.int .u64 x180002_1) ∧ w'.cell? ⟨gb179, 3, none⟩ = some (.int .u64 x180003_1) ∧ w'.cell? (ad178.add ((x4_1).toNat * 4)) = some (.int .u64 ((rd_T29 l0 x4_1).f0)) ∧ w'.cell? ⟨(ad178.add ((x4_1).toNat * 4)).block, (ad178.add ((x4_1).toNat * 4)).off + 1, none⟩ = some (.int .u64 ((rd_T29 l0 x4_1).f1)) ∧ w'.cell? ⟨(ad178.add ((x4_1).toNat * 4)).block, (ad178.add ((x4_1).toNat * 4)).off + 2, none⟩ = some (.int .u64 ((rd_T29 l0 x4_1).f2)) ∧ w'.cell? ⟨(ad178.add ((x4_1).toNat * 4)).block, (ad178.add ((x4_1).toNat * 4)).off + 3, none⟩ = some (.int .u64 ((rd_T29 l0 x4_1).f3))) (ds := [6]) #[false, false, false, false, false, false, false] (by kernel_rfl) rfl rfl ⟨(blk_cell BK179.out 0).trans rfl, (blk_cell BK179.out 1).trans rfl, (blk_cell BK179.out 2).trans rfl, (blk_cell BK179.out 3).trans rfl, (pc_ HB.out hw180_0), (pc_ HB.out hw180_1), (pc_ HB.out hw180_2), (pc_ HB.out hw180_3)⟩ (fun hHeld => ?_)
          generalize wr.drew = w21 at BK173 BK179 HB hx180_0 hx180_1 hx180_2 hx180_3 hHeld ⊢
          refine pure_ (i := 0) (N := some 26) (v := ?_) (a' := ?_) #[true, false, false, false, false, false, false] rfl rfl (by kernel_rfl) (fun _ _ _ h => h) (Or.inl ⟨by rfl, ?_⟩) ?_ ?_
          rotate_left
          ·intro w'
           go_simp
           with_reducible rfl
          rotate_left
          ·simp only [Act.put, List.setIfInBounds_toArray, List.set_cons_zero, List.set_cons_succ, i64_w, i32_w]
           rfl
          refine pure_ (i := 1) (N := some 27) (v := ?_) (a' := ?_) #[true, true, false, false, false, false, false] rfl rfl (by kernel_rfl) (fun _ _ _ h => h) (Or.inl ⟨by rfl, ?_⟩) ?_ ?_
          rotate_left
          ·intro w'
           go_simp
           with_reducible rfl
          rotate_left
          ·simp only [Act.put, List.setIfInBounds_toArray, List.set_cons_zero, List.set_cons_succ, i64_w, i32_w]
           rfl
          refine pure_ (i := 2) (N := some 28) (v := ?_) (a' := ?_) #[true, true, true, false, false, false, false] rfl rfl (by kernel_rfl) (fun _ _ _ h => h) (Or.inl ⟨by rfl, ?_⟩) ?_ ?_
          rotate_left
          ·intro w'
           go_simp
           with_reducible rfl
          rotate_left
          ·simp only [Act.put, List.setIfInBounds_toArray, List.set_cons_zero, List.set_cons_succ, i64_w, i32_w]
           rfl
          refine take_ (i := 3) (N := some 29) (v := ?_) (a' := ?_) #[true, true, true, true, false, false, false] rfl rfl (by kernel_rfl) (fun _ _ _ h => h) (Or.inl ⟨by rfl, ?_⟩) hHeld ?_ ?_
          rotate_left
          ·rintro w' ⟨s0, s1, s2, s3, s4, s5, s6, s7⟩
           go_simp
           with_reducible rfl
          rotate_left
          ·simp only [Act.put, List.setIfInBounds_toArray, List.set_cons_zero, List.set_cons_succ, i64_w, i32_w]
           rfl
          refine take_ (i := 4) (N := some 30) (v := ?_) (a' := ?_) #[true, true, true, true, true, false, false] rfl rfl (by kernel_rfl) (fun _ _ _ h => h) (Or.inl ⟨by rfl, ?_⟩) hHeld ?_ ?_
          rotate_left
          ·rintro w' ⟨s0, s1, s2, s3, s4, s5, s6, s7⟩
           go_simp
           with_reducible rfl
          rotate_left
          ·simp only [Act.put, List.setIfInBounds_toArray, List.set_cons_zero, List.set_cons_succ, i64_w, i32_w]
           rfl
          refine one_ (i := 5) (N := some 31) #[true, true, true, true, true, true, false] rfl rfl (by kernel_rfl) (by decide) (fun K hK => ?_)
          refine goN_ Try.func119 #[.agg #[.int .u64 ((rd_T29 l0 x4_1).f0), .int .u64 ((rd_T29 l0 x4_1).f1), .int .u64 ((rd_T29 l0 x4_1).f2), .int .u64 ((rd_T29 l0 x4_1).f3)], .agg #[.int .u64 x180000_1, .int .u64 x180001_1, .int .u64 x180002_1, .int .u64 x180003_1]] ?_
          with_reducible refine (spec_HashPair.calls k1 ((rd_T29 l0 x4_1).f0) ((rd_T29 l0 x4_1).f1) ((rd_T29 l0 x4_1).f2) ((rd_T29 l0 x4_1).f3) x180000_1 x180001_1 x180002_1 x180003_1 t181 t182 t183 t184 _ A20.out).mono ?_
          rintro e w22 ⟨rfl, hb⟩
          refine ⟨_, rfl, ?_⟩
          replace BK173 := bb_ BK173.out hb
          replace BK179 := bb_ BK179.out hb
          replace HB := stepB_ hb
          (try clear hb)
          refine hK.out _ _ ⟨(blk_cell BK179.out 0).trans rfl, (blk_cell BK179.out 1).trans rfl, (blk_cell BK179.out 2).trans rfl, (blk_cell BK179.out 3).trans rfl, (pc_ HB.out hw180_0), (pc_ HB.out hw180_1), (pc_ HB.out hw180_2), (pc_ HB.out hw180_3)⟩ (fun hHeld => ?_)
          clear hK K
          refine normP_ (some 31) ?_
          refine last_ (i := 6) (N := none) #[true, true, true, true, true, true, true] rfl rfl (by kernel_rfl) (by decide) (fun K hK => ?_)
          have hs23 : w22.cell? ⟨gb179, 0, none⟩ = some (.int .u64 x180000_1) := (blk_cell BK179.out 0).trans rfl
          have hfs23 := blk_frozen BK179.out 0
          have hns23_0 := NB173_179.out
          have hms23_0 := NB179_173.out
          have hs24 : w22.cell? ⟨gb179, 1, none⟩ = some (.int .u64 x180001_1) := (blk_cell BK179.out 1).trans rfl
          have hfs24 := blk_frozen BK179.out 1
          have hns24_0 := NB173_179.out
          have hms24_0 := NB179_173.out
          have hs25 : w22.cell? ⟨gb179, 2, none⟩ = some (.int .u64 x180002_1) := (blk_cell BK179.out 2).trans rfl
          have hfs25 := blk_frozen BK179.out 2
          have hns25_0 := NB173_179.out
          have hms25_0 := NB179_173.out
          have hs26 : w22.cell? ⟨gb179, 3, none⟩ = some (.int .u64 x180003_1) := (blk_cell BK179.out 3).trans rfl
          have hfs26 := blk_frozen BK179.out 3
          have hns26_0 := NB173_179.out
          have hms26_0 := NB179_173.out
          refine skip_ (w1 := ?_) (by rfl) rfl ?_ ?_
          rotate_left
          ·go_simp
           rfl
          refine hK.out _ _ ?_
          clear hK K
          refine done_ (by kernel_rfl) ?_
          try go_wp2
          go_roundg k1
          case measure => have := HK1.out; omega
          case rel => exact ⟨(wrap64 (x4_1 - 1)), (t181), (t182), (t183), (t184), rl_, H', ⟨by have := HK1.out; omega⟩, ⟨blkU_ BK173.out⟩, ⟨blkF_ BK179.out⟩, ⟨bel_⟩⟩
         ·rw [if_neg c19] at H
          exact absurd H (by simp)
        ·rw [if_neg c18] at H
         exact absurd H (by simp)
       ·rw [if_neg c17] at H
        have c17b0 : decide (0 ≤ x4_1) = false := decide_eq_false c17
        clear c17
        simp only [Option.some.injEq, Prod.mk.injEq] at H
        obtain ⟨rfl, rfl, rfl, rfl⟩ := H
        have hnb27 := NB179_173.out
        have hnc27 := NB173_179.out
        obtain ⟨z28_0, z28_1, z28_2, z28_3, f28_0, f28_1, f28_2, f28_3⟩ := cz4_ BK179.out
        obtain ⟨z29_0, z29_1, z29_2, z29_3, f29_0, f29_1, f29_2, f29_3⟩ := cz4_ BK173.out
        go_wp2
        refine bodyPost_ret (results_cell_row rfl _ _ gb173 29 #[.int .u64 x180000_1, .int .u64 x180001_1, .int .u64 x180002_1, .int .u64 x180003_1] (0, 0) _ rfl (blkF_ BK173.out) Try.underlying29 rfl (by kernel_rfl)) rfl ?_
        exact ⟨by first | rfl | (simp [errW_none, errW_some] <;> rfl) | (simp only [← hji10]; first | rfl | (simp [errW_none, errW_some] <;> rfl)) | (simp [*, errW_none, errW_some] <;> rfl), bel_⟩
    ·rw [if_neg c12] at H
     exact absurd H (by simp)
   ·rw [if_neg c11] at H
    exact absurd H (by simp)
end
section
def impl_PeaksRoot.f : Nat → List (S29) → Option (Int × Int × Int × Int)
 | 0, _ => none
 | k + 1, l0 => if (l0.length : Int) = 0 then ((impl_HashOf.f k (⟨#[]⟩ : ByteArray)).bind fun bt401 => (some (bt401.1, bt401.2.1, bt401.2.2.1, bt401.2.2.2))) else (if (l0.length : Int) > 8 then (some (0, 0, 0, 0)) else (if (l0.length : Int) = 1 then (if 0 < (l0.length : Int) then (some ((rd_T29 l0 0).f0, (rd_T29 l0 0).f1, (rd_T29 l0 0).f2, (rd_T29 l0 0).f3)) else (none)) else (if 0 < (l0.length : Int) then (if 1 ≤ (l0.length : Int) then ((impl_PeaksRoot.f k (l0.drop 1)).bind fun bt411 => ((impl_HashPair.f k ((rd_T29 l0 0).f0) ((rd_T29 l0 0).f1) ((rd_T29 l0 0).f2) ((rd_T29 l0 0).f3) bt411.1 bt411.2.1 bt411.2.2.1 bt411.2.2.2).bind fun bt415 => (some (bt415.1, bt415.2.1, bt415.2.2.1, bt415.2.2.2)))) else (none)) else (none))))
def impl_PeaksRoot.T7 : Bool × List (List Nat × List Nat) := (true, [([], []), ([0], [0]), ([1], [1]), ([], []), ([3], [3]), ([4], [4]), ([2, 5, 5], [2, 5]), ([6, 6, 0, 1, 2, 3, 4, 5, 6], [6])])
def impl_PeaksRoot.B7 : List Nat := [0, 1, 3, 0, 8, 24, 63, 127]
theorem impl_PeaksRoot.tab7 : rtab .any (opsOf Try.f69 7) = impl_PeaksRoot.T7 := by kernel_rfl
theorem impl_PeaksRoot.bits7 : waitsOk impl_PeaksRoot.T7.2 impl_PeaksRoot.B7 = true := by kernel_rfl
theorem impl_PeaksRoot.calls (k : Nat) : ∀ (A0 : Option Addr) (c0 : Nat) (l0 : List (S29)) (r1 r2 : Int) (r3 r4 : Int) (w : World) (hr0 : Kd.C k29 w A0 l0.length l0) (hc0 : l0.length ≤ c0) (h : impl_PeaksRoot.f k l0 = some (r1, r2, r3, r4)),
  Calls Try.prog 69 #[.slice A0 l0.length c0] w fun e w' => e = .returned (.agg #[.int .u64 r1, .int .u64 r2, .int .u64 r3, .int .u64 r4]) ∧ Below w.heap.size w w' := by
 induction k using Nat.strongRecOn with
 | _ k ih =>
 intro A0 c0 l0 r1 r2 r3 r4 w hr0 hc0 h
 cases k with
 | zero => exact absurd h (by simp [impl_PeaksRoot.f])
 | succ k =>
 simp only [impl_PeaksRoot.f] at h
 have hu29 := Try.underlying29
 have HR0 := Aside0.mk hr0
 have HC0 := Aside0.mk hc0
 clear hr0 hc0
 have HB := a_ (Below.refl w.heap.size w)
 have H : (if (l0.length : Int) = 0 then ((impl_HashOf.f k (⟨#[]⟩ : ByteArray)).bind fun bt401 => (some (bt401.1, bt401.2.1, bt401.2.2.1, bt401.2.2.2))) else (if (l0.length : Int) > 8 then (some (0, 0, 0, 0)) else (if (l0.length : Int) = 1 then (if 0 < (l0.length : Int) then (some ((rd_T29 l0 0).f0, (rd_T29 l0 0).f1, (rd_T29 l0 0).f2, (rd_T29 l0 0).f3)) else (none)) else (if 0 < (l0.length : Int) then (if 1 ≤ (l0.length : Int) then ((impl_PeaksRoot.f k (l0.drop 1)).bind fun bt411 => ((impl_HashPair.f k ((rd_T29 l0 0).f0) ((rd_T29 l0 0).f1) ((rd_T29 l0 0).f2) ((rd_T29 l0 0).f3) bt411.1 bt411.2.1 bt411.2.2.1 bt411.2.2.2).bind fun bt415 => (some (bt415.1, bt415.2.1, bt415.2.2.1, bt415.2.2.2)))) else (none)) else (none))))) = some (r1, r2, r3, r4) := h
 clear h
 by_cases c2 : (l0.length : Int) = 0
 ·rw [if_pos c2] at H
  have c2b0 := beq_iff_eq.mpr c2
  have c2b1 := bne_eq_false_iff_eq.mpr c2
  clear c2
  obtain ⟨⟨t401, t402, t403, t404⟩, A3, H⟩ := bnd_ H
  dsimp only at H
  simp only [Option.some.injEq, Prod.mk.injEq] at H
  obtain ⟨rfl, rfl, rfl, rfl⟩ := H
  go_enter Try.func69, Try.ntmps69
  go_wp2_with (first | ((with_reducible refine gate_dst (N := 2) rfl ?_); refine boxE_ (cs := #[.int .u64 0, .int .u64 0, .int .u64 0, .int .u64 0]) (t := 29) ?_; intro gb400 hg w4 hbox hb; have BK400 := a_ (hbox); have GW400 := sizeB_ hg; replace HB := stepB_ hb; clear hb hbox hg) | (refine gcL_ 68 (some 7) Try.func68 #[.string (⟨#[]⟩ : ByteArray)] ?_; (with_reducible refine (impl_HashOf.calls k (⟨#[]⟩ : ByteArray) t401 t402 t403 t404 _ A3.out).mono ?_); rintro e w5 ⟨rfl, hb⟩; refine ⟨_, rfl, ?_⟩; replace BK400 := bb_ BK400.out hb; replace HB := stepB_ hb; (try clear hb); obtain ⟨z6_0, z6_1, z6_2, z6_3, f6_0, f6_1, f6_2, f6_3⟩ := cz4_ BK400.out))
  refine bodyPost_ret (results_cell_row rfl _ _ gb400 29 #[.int .u64 t401, .int .u64 t402, .int .u64 t403, .int .u64 t404] (0, 0) _ rfl (blkF_ BK400.out) Try.underlying29 rfl (by kernel_rfl)) rfl ?_
  exact ⟨rfl_, bel_⟩
 ·rw [if_neg c2] at H
  have c2b0 := beq_eq_false_iff_ne.mpr c2
  have c2b1 := bne_iff_ne.mpr c2
  have c2b2 : ¬ (l0 = []) := fun h_ => c2 (by rw [h_]; rfl)
  by_cases c7 : (l0.length : Int) > 8
  ·rw [if_pos c7] at H
   have c7b0 : decide (8 < (l0.length : Int)) = true := decide_eq_true c7
   have c7b1 : decide (8 < l0.length) = true := decide_eq_true (by omega)
   clear c7
   simp only [Option.some.injEq, Prod.mk.injEq] at H
   obtain ⟨rfl, rfl, rfl, rfl⟩ := H
   go_enter Try.func69, Try.ntmps69
   go_wp2_with (first | ((with_reducible refine gate_dst (N := 2) rfl ?_); refine boxE_ (cs := #[.int .u64 0, .int .u64 0, .int .u64 0, .int .u64 0]) (t := 29) ?_; intro gb400 hg w8 hbox hb; have BK400 := a_ (hbox); have GW400 := sizeB_ hg; replace HB := stepB_ hb; clear hb hbox hg; obtain ⟨z9_0, z9_1, z9_2, z9_3, f9_0, f9_1, f9_2, f9_3⟩ := cz4_ BK400.out))
   refine bodyPost_ret (results_cell_row rfl _ _ gb400 29 #[.int .u64 0, .int .u64 0, .int .u64 0, .int .u64 0] (0, 0) _ rfl (blkF_ BK400.out) Try.underlying29 rfl (by kernel_rfl)) rfl ?_
   exact ⟨rfl_, bel_⟩
  ·rw [if_neg c7] at H
   have c7b0 : decide (8 < (l0.length : Int)) = false := decide_eq_false c7
   have c7b1 : decide (8 < l0.length) = false := decide_eq_false (by omega)
   clear c7
   by_cases c10 : (l0.length : Int) = 1
   ·rw [if_pos c10] at H
    have c10b0 := beq_iff_eq.mpr c10
    have c10b1 := bne_eq_false_iff_eq.mpr c10
    clear c10
    by_cases c11 : 0 < (l0.length : Int)
    ·rw [if_pos c11] at H
     have c11b0 := decide_eq_true c11
     have c11b1 : decide (0 < l0.length) = true := decide_eq_true (by omega)
     clear c11
     simp only [Option.some.injEq, Prod.mk.injEq] at H
     obtain ⟨rfl, rfl, rfl, rfl⟩ := H
     go_enter Try.func69, Try.ntmps69
     go_wp2_with (first | ((with_reducible refine gate_dst (N := 2) rfl ?_); refine boxE_ (cs := #[.int .u64 0, .int .u64 0, .int .u64 0, .int .u64 0]) (t := 29) ?_; intro gb400 hg w12 hbox hb; have BK400 := a_ (hbox); have GW400 := sizeB_ hg; replace HB := stepB_ hb; clear hb hbox hg; have p405 : 0 ≤ (0 : Int) := (by omega); have q405 : 0 < (l0.length : Int) := ofd_; obtain ⟨ad405, e405, hx405_0, hx405_1, hx405_2, hx405_3⟩ := at_T29 HR0.out 0 p405 q405; cases e405; have qi405 : (0 < l0.length) = True := eq_true (by omega); (try rw [show ((0 : Int)).toNat = 0 from rfl] at hx405_0); (try rw [show 0 * 4 = 0 from rfl] at hx405_0); (try rw [Addr.add_zero'] at hx405_0); (try rw [show ((0 : Int)).toNat = 0 from rfl] at hx405_1); (try rw [show 0 * 4 = 0 from rfl] at hx405_1); (try rw [Addr.add_zero'] at hx405_1); (try rw [show ((0 : Int)).toNat = 0 from rfl] at hx405_2); (try rw [show 0 * 4 = 0 from rfl] at hx405_2); (try rw [Addr.add_zero'] at hx405_2); (try rw [show ((0 : Int)).toNat = 0 from rfl] at hx405_3); (try rw [show 0 * 4 = 0 from rfl] at hx405_3); (try rw [Addr.add_zero'] at hx405_3); replace hx405_0 := pc_ HB.out hx405_0; replace hx405_1 := pc_ HB.out hx405_1; replace hx405_2 := pc_ HB.out hx405_2; replace hx405_3 := pc_ HB.out hx405_3; replace p405 := eq_true p405; replace q405 := eq_true q405; obtain ⟨z13_0, z13_1, z13_2, z13_3, f13_0, f13_1, f13_2, f13_3⟩ := cz4_ BK400.out))
     refine bodyPost_ret (results_cell_row rfl _ _ gb400 29 #[.int .u64 ((rd_T29 l0 0).f0), .int .u64 ((rd_T29 l0 0).f1), .int .u64 ((rd_T29 l0 0).f2), .int .u64 ((rd_T29 l0 0).f3)] (0, 0) _ rfl (blkF_ BK400.out) Try.underlying29 rfl (by kernel_rfl)) rfl ?_
     exact ⟨rfl_, bel_⟩
    ·rw [if_neg c11] at H
     exact absurd H (by simp)
   ·rw [if_neg c10] at H
    have c10b0 := beq_eq_false_iff_ne.mpr c10
    have c10b1 := bne_iff_ne.mpr c10
    by_cases c14 : 0 < (l0.length : Int)
    ·rw [if_pos c14] at H
     have c14b0 := decide_eq_true c14
     have c14b1 : decide (0 < l0.length) = true := decide_eq_true (by omega)
     clear c14
     by_cases c15 : 1 ≤ (l0.length : Int)
     ·rw [if_pos c15] at H
      have c15b0 := eq_true c15
      have c15b1 := decide_eq_true c15
      clear c15
      obtain ⟨y407, hy407⟩ : ∃ y_ : List (S29), y_ = (l0.drop 1) := ⟨_, rfl⟩
      replace H : ((impl_PeaksRoot.f k y407).bind fun bt411 => ((impl_HashPair.f k ((rd_T29 l0 0).f0) ((rd_T29 l0 0).f1) ((rd_T29 l0 0).f2) ((rd_T29 l0 0).f3) bt411.1 bt411.2.1 bt411.2.2.1 bt411.2.2.2).bind fun bt415 => (some (bt415.1, bt415.2.1, bt415.2.2.1, bt415.2.2.2)))) = some (r1, r2, r3, r4) := rpl_ hy407 H
      have Ny407 := Aside0.mk hy407
      clear hy407
      obtain ⟨⟨t411, t412, t413, t414⟩, A16, H⟩ := bnd_ H
      dsimp only at H
      obtain ⟨⟨t415, t416, t417, t418⟩, A17, H⟩ := bnd_ H
      dsimp only at H
      simp only [Option.some.injEq, Prod.mk.injEq] at H
      obtain ⟨rfl, rfl, rfl, rfl⟩ := H
      go_enter Try.func69, Try.ntmps69
      try go_wp2_with (first | ((with_reducible refine gate_dst (N := 2) rfl ?_); refine boxE_ (cs := #[.int .u64 0, .int .u64 0, .int .u64 0, .int .u64 0]) (t := 29) ?_; intro gb400 hg w18 hbox hb; have BK400 := a_ (hbox); have GW400 := sizeB_ hg; replace HB := stepB_ hb; clear hb hbox hg))
      replace BK400 := a_ (blk_drew BK400.out)
      replace HB := a_ (below_drew1 HB.out)
      have p406 : 0 ≤ (0 : Int) := (by omega)
      have q406 : 0 < (l0.length : Int) := ofd_
      obtain ⟨ad406, e406, hx406_0, hx406_1, hx406_2, hx406_3⟩ := at_T29 HR0.out 0 p406 q406
      have hw406_3 := hx406_3
      (try rw [show ((0 : Int)).toNat = 0 from rfl] at hw406_3)
      (try rw [show 0 * 4 = 0 from rfl] at hw406_3)
      (try rw [Addr.add_zero'] at hw406_3)
      have hw406_2 := hx406_2
      (try rw [show ((0 : Int)).toNat = 0 from rfl] at hw406_2)
      (try rw [show 0 * 4 = 0 from rfl] at hw406_2)
      (try rw [Addr.add_zero'] at hw406_2)
      have hw406_1 := hx406_1
      (try rw [show ((0 : Int)).toNat = 0 from rfl] at hw406_1)
      (try rw [show 0 * 4 = 0 from rfl] at hw406_1)
      (try rw [Addr.add_zero'] at hw406_1)
      have hw406_0 := hx406_0
      (try rw [show ((0 : Int)).toNat = 0 from rfl] at hw406_0)
      (try rw [show 0 * 4 = 0 from rfl] at hw406_0)
      (try rw [Addr.add_zero'] at hw406_0)
      cases e406
      have qi406 : (0 < l0.length) = True := eq_true (by omega)
      (try rw [show ((0 : Int)).toNat = 0 from rfl] at hx406_0)
      (try rw [show 0 * 4 = 0 from rfl] at hx406_0)
      (try rw [Addr.add_zero'] at hx406_0)
      (try rw [show ((0 : Int)).toNat = 0 from rfl] at hx406_1)
      (try rw [show 0 * 4 = 0 from rfl] at hx406_1)
      (try rw [Addr.add_zero'] at hx406_1)
      (try rw [show ((0 : Int)).toNat = 0 from rfl] at hx406_2)
      (try rw [show 0 * 4 = 0 from rfl] at hx406_2)
      (try rw [Addr.add_zero'] at hx406_2)
      (try rw [show ((0 : Int)).toNat = 0 from rfl] at hx406_3)
      (try rw [show 0 * 4 = 0 from rfl] at hx406_3)
      (try rw [Addr.add_zero'] at hx406_3)
      replace hx406_0 := pc_ HB.out hx406_0
      replace hx406_1 := pc_ HB.out hx406_1
      replace hx406_2 := pc_ HB.out hx406_2
      replace hx406_3 := pc_ HB.out hx406_3
      replace p406 := eq_true p406
      replace q406 := eq_true q406
      have q20 : (1 : Int) ≤ ((l0.length : Int) : Int) := ofd_
      obtain ⟨i020, hi020, _, hsz20, _⟩ := info_parts info29
      have hroom20 : l0.length ≤ c0 := HC0.out
      have hC20 : Kd.C k29 _ (some ad406) l0.length l0 := HR0.out
      have hcut20 := cut_from (P := Try.prog) 49 29 .i64 Try.underlying49 hi020 4 hsz20 (some ad406) l0.length c0 1 (by omega) q20
      have hr20 := Kd.C_drop (m := (1 : Int).toNat) (c := c0) hC20 (by omega) hroom20
      obtain ⟨A20, hA20⟩ : ∃ A1, A1 = (if c0 = (1 : Int).toNat then (some ad406) else ((some ad406) : Option Addr).map (·.add ((1 : Int).toNat * 4))) := ⟨_, rfl⟩
      obtain ⟨c20, hc20⟩ : ∃ c1, c1 = c0 - (1 : Int).toNat := ⟨_, rfl⟩
      have hy20 : y407.length = l0.length - (1 : Int).toNat := (by rw [Ny407.out, List.length_drop] <;> omega)
      rw [show (l0).drop (1 : Int).toNat = y407 from Ny407.out.symm] at hr20
      replace hr20 : Kd.C k29 _ A20 y407.length y407 := (by rw [hA20]; exact hr20)
      rw [← hy20, ← hA20, ← hc20] at hcut20
      have HR410 := Aside0.mk hr20
      have HC410 := a_ (show y407.length ≤ c20 from by rw [hy20, hc20]; exact Nat.sub_le_sub_right hroom20 _)
      clear hr20 hC20 hroom20 hi020 hsz20 hc20
      have KY20 := Aside0.mk hy20
      have KA20 := Aside0.mk hA20
      clear hy20 hA20
      replace q20 := eq_true q20
      refine start_ (n := 8) (S := fun w' => w'.cell? ad406 = some (.int .u64 ((rd_T29 l0 0).f0)) ∧ w'.cell? ⟨ad406.block, ad406.off + 1, none⟩ = some (.int .u64 ((rd_T29 l0 0).f1)) ∧ w'.cell? ⟨ad406.block, ad406.off + 2, none⟩ = some (.int .u64 ((rd_T29 l0 0).f2)) ∧ w'.cell? ⟨ad406.block, ad406.off + 3, none⟩ = some (.int .u64 ((rd_T29 l0 0).f3))) (ds := []) #[false, false, false, false, false, false, false, false] (by kernel_rfl) rfl rfl ⟨(pc_ HB.out hw406_0), (pc_ HB.out hw406_1), (pc_ HB.out hw406_2), (pc_ HB.out hw406_3)⟩ (fun hHeld => ?_); refine with_tabW impl_PeaksRoot.tab7 impl_PeaksRoot.bits7 (fun HT HW_ => ?_)
      generalize w18.drew = w19 at BK400 HB HR410 hx406_0 hx406_1 hx406_2 hx406_3 hHeld ⊢
      refine pP_ 0 (some 20) (b_ 8 1) HT ?_
      refine pP_ 1 (some 21) (b_ 8 3) HT ?_
      refine pP_ 3 (some 23) (b_ 8 11) HT ?_
      refine pP_ 4 (some 24) (b_ 8 27) HT ?_
      refine takeP_ 2 (some 22) (b_ 8 31) HT HW_ hHeld ?_
      refine oneP_ 5 (some 25) (b_ 8 63) HT (fun K hK => ?_)
      refine goN_ Try.func69 #[.slice A20 y407.length c20] ?_
      with_reducible refine (ih k (by omega) _ _ y407 t411 t412 t413 t414 _ ?side1 ?side2 A16.out).mono ?_
      (case side1 => exact cU_ (Kd.C_below HR410.out HB.out))
      (case side2 => exact HC410.out)
      rintro e w21 ⟨rfl, hb⟩
      refine ⟨_, rfl, ?_⟩
      replace BK400 := bb_ BK400.out hb
      replace HB := stepB_ hb
      (try clear hb)
      refine hK.out _ _ ⟨(pc_ HB.out hw406_0), (pc_ HB.out hw406_1), (pc_ HB.out hw406_2), (pc_ HB.out hw406_3)⟩ (fun hHeld => ?_)
      clear hK K
      refine normP_ (some 25) ?_
      refine oneP_ 6 (some 26) (b_ 8 127) HT (fun K hK => ?_)
      refine goN_ Try.func110 #[.agg #[.int .u64 ((rd_T29 l0 0).f0), .int .u64 ((rd_T29 l0 0).f1), .int .u64 ((rd_T29 l0 0).f2), .int .u64 ((rd_T29 l0 0).f3)], .agg #[.int .u64 t411, .int .u64 t412, .int .u64 t413, .int .u64 t414]] ?_
      with_reducible refine (impl_HashPair.calls k ((rd_T29 l0 0).f0) ((rd_T29 l0 0).f1) ((rd_T29 l0 0).f2) ((rd_T29 l0 0).f3) t411 t412 t413 t414 t415 t416 t417 t418 _ A17.out).mono ?_
      rintro e w22 ⟨rfl, hb⟩
      refine ⟨_, rfl, ?_⟩
      replace BK400 := bb_ BK400.out hb
      replace HB := stepB_ hb
      (try clear hb)
      refine hK.out _ _ ⟨(pc_ HB.out hw406_0), (pc_ HB.out hw406_1), (pc_ HB.out hw406_2), (pc_ HB.out hw406_3)⟩ (fun hHeld => ?_)
      clear hK K
      refine normP_ (some 26) ?_
      refine oneP_ 7 none (b_ 8 255) HT (fun K hK => ?_)
      have hs23 : w22.cell? ⟨gb400, 0, none⟩ = some (.int .u64 0) := (blk_cell BK400.out 0).trans rfl
      have hfs23 := blk_frozen BK400.out 0
      have hs24 : w22.cell? ⟨gb400, 1, none⟩ = some (.int .u64 0) := (blk_cell BK400.out 1).trans rfl
      have hfs24 := blk_frozen BK400.out 1
      have hs25 : w22.cell? ⟨gb400, 2, none⟩ = some (.int .u64 0) := (blk_cell BK400.out 2).trans rfl
      have hfs25 := blk_frozen BK400.out 2
      have hs26 : w22.cell? ⟨gb400, 3, none⟩ = some (.int .u64 0) := (blk_cell BK400.out 3).trans rfl
      have hfs26 := blk_frozen BK400.out 3
      refine skip_ (w1 := ?_) (by rfl) rfl ?_ ?_
      rotate_left
      ·go_simp
       rfl
      refine hK.out _ _ ⟨((cell_far (p := ⟨gb400, _, none⟩) (nw_ hw406_0 GW400.out) _).trans (((cell_far (p := ⟨gb400, _, none⟩) (nw_ hw406_0 GW400.out) _).trans ((cf2_ (nw_ hw406_0 GW400.out) hHeld.1))))), ((cell_far (p := ⟨gb400, _, none⟩) (nw_ hw406_1 GW400.out) _).trans (((cell_far (p := ⟨gb400, _, none⟩) (nw_ hw406_1 GW400.out) _).trans ((cf2_ (nw_ hw406_1 GW400.out) hHeld.2.1))))), ((cell_far (p := ⟨gb400, _, none⟩) (nw_ hw406_2 GW400.out) _).trans (((cell_far (p := ⟨gb400, _, none⟩) (nw_ hw406_2 GW400.out) _).trans ((cf2_ (nw_ hw406_2 GW400.out) hHeld.2.2.1))))), ((cell_far (p := ⟨gb400, _, none⟩) (nw_ hw406_3 GW400.out) _).trans (((cell_far (p := ⟨gb400, _, none⟩) (nw_ hw406_3 GW400.out) _).trans ((cf2_ (nw_ hw406_3 GW400.out) hHeld.2.2.2)))))⟩ (fun hHeld => ?_)
      clear hK K
      refine done_ (done_of HT.out (by kernel_rfl)) ?_
      try go_wp2
      refine bodyPost_ret (results_cell_row rfl _ _ gb400 29 #[.int .u64 t415, .int .u64 t416, .int .u64 t417, .int .u64 t418] (0, 0) _ rfl (blkF_ BK400.out) Try.underlying29 rfl (by kernel_rfl)) rfl ?_
      exact ⟨rfl_, bel_⟩
     ·rw [if_neg c15] at H
      exact absurd H (by simp)
    ·rw [if_neg c14] at H
     exact absurd H (by simp)
end
section
def spec_l4Peaks.l0 : Nat → Int → Int → List (S29) → List ByteArray → Int → Int → Option (List ByteArray)
 | 0, _, _, _, _, _, _ => none
 | k + 1, x0, x1, x2, x7, x8, x9 => if x9 < (wrap64 ((x2.length : Int) - 1)) then (if 0 ≤ x9 then (if x9 < (x2.length : Int) then (if 0 ≤ (wrap64 (x9 + 1)) then (if (wrap64 (x9 + 1)) ≤ (x2.length : Int) then ((spec_PeaksRoot.f k (x2.drop ((wrap64 (x9 + 1)) : Int).toNat)).bind fun bt731 => ((spec_l1PairText.f k ((rd_T29 x2 x9).f0) ((rd_T29 x2 x9).f1) ((rd_T29 x2 x9).f2) ((rd_T29 x2 x9).f3) bt731.1 bt731.2.1 bt731.2.2.1 bt731.2.2.2).bind fun t735 => (if x7.length < 8796093022208 then ((some (x7 ++ [t735] : List ByteArray)).bind fun y736 => ((spec_l2Half.f k (wrap64 (x0 - x8))).bind fun t739 => (if x1 < (wrap64 (x8 + t739)) then (some y736) else (spec_l4Peaks.l0 k x0 x1 x2 y736 (wrap64 (x8 + t739)) (wrap64 (x9 + 1)))))) else (none)))) else (none)) else (none)) else (none)) else (none)) else (some x7)
def spec_l4Peaks.f (k : Nat) (a0 a1 : Int) (l2 : List (S29)) : Option (List ByteArray) := spec_l4Peaks.l0 k a0 a1 l2 (([] : List ByteArray)) 0 0
def spec_l4Peaks.T5 : Bool × List (List Nat × List Nat) := (true, [([], []), ([], []), ([], []), ([1, 2], [1, 2]), ([3], [3]), ([], []), ([], []), ([6], [6]), ([5, 7], [5, 7]), ([8], [8]), ([4, 9, 9], [4, 9]), ([10], [10]), ([0, 11, 10], [0, 11]), ([12, 12, 0, 1, 2, 3, 4, 5, 6, 7, 8, 9, 10, 11, 12], [0, 12])])
def spec_l4Peaks.B5 : List Nat := [0, 0, 0, 6, 14, 0, 0, 64, 224, 480, 1022, 2046, 4095, 8191]
theorem spec_l4Peaks.tab5 : rtab .any (opsOf Try.f49 5) = spec_l4Peaks.T5 := by kernel_rfl
theorem spec_l4Peaks.bits5 : waitsOk spec_l4Peaks.T5.2 spec_l4Peaks.B5 = true := by kernel_rfl
theorem spec_l4Peaks.calls (k : Nat) (a0 a1 : Int) (A2 : Option Addr) (c2 : Nat) (l2 : List (S29)) (r : List ByteArray) (w : World) (hr2 : Kd.C k29 w A2 l2.length l2) (hc2 : l2.length ≤ c2) (h : spec_l4Peaks.f k a0 a1 l2 = some r) :
  Calls Try.prog 49 #[.int .i64 a0, .int .i64 a1, .slice A2 l2.length c2] w fun e w' => ∃ v0_ : Value, e = .returned (v0_) ∧ Kd.R Kd.string 9 w' w.heap.size (fun _ => True) v0_ r ∧ Below w.heap.size w w' := by
 have hu29 := Try.underlying29
 have HR2 := Aside0.mk hr2
 have HC2 := Aside0.mk hc2
 clear hr2 hc2
 have HB := a_ (Below.refl w.heap.size w)
 have H := h
 unfold spec_l4Peaks.f at H
 clear h
 obtain ⟨y723, hy723⟩ : ∃ y_ : List ByteArray, y_ = (([] : List ByteArray)) := ⟨_, rfl⟩
 replace H : (spec_l4Peaks.l0 k a0 a1 l2 y723 0 0) = some r := rpl_ hy723 H
 have Ny723 := Aside0.mk hy723
 clear hy723
 have H' := Aside0.mk H
 clear H
 go_enter Try.func49, Try.ntmps49
 go_wp2_with (first | ((with_reducible refine gate_dst (N := 11) rfl ?_); refine Kd.R_lit Kd.string _ 9 ?hg (N := 11) ?hd (xs := ([] : List ByteArray)) (inner := []) (ok := fun _ => True) (okp := fun _ => True) ?hr ?hp (fun _ hk => hk) trivial (Below.refl _ _) (Nat.le_refl _) (by simp) ?_; (case hd => rfl); (case hg => rfl); (case hr => first | (go_simp; done) | (go_simp; rfl)); (case hp => exact (Reps.none _ _)); intro v724 w4 ho5 hb hg_ hnew_; clear hg_ hnew_; (first | rw [← Ny723.out] at ho5 | (simp only [Int.reduceToNat] at ho5; rw [← Ny723.out] at ho5)); have HO725 := a_ (Kd.R_lower ho5 (below_size bel_)); replace HB := stepB_ hb; clear hb ho5))
 go_loopg [7, 8, 9] k (fun kq v7 v8 v9 w' => ∃ (x7_1 : List ByteArray) (x8_1 x9_1 : Int), v8 = .int .i64 x8_1 ∧ v9 = .int .i64 x9_1 ∧ Aside0 (spec_l4Peaks.l0 kq a0 a1 l2 x7_1 x8_1 x9_1 = some r) ∧ Aside0 (kq ≤ k) ∧ Aside0 (Kd.R Kd.string 9 w' w.heap.size (fun _ => True) v7 x7_1) ∧ Aside0 (Below w.heap.size w w'))
 case atStart => exact ⟨(y723), (0), (0), rl_, rl_, H', ⟨Nat.le_refl _⟩, ⟨kdU_ HO725.out⟩, ⟨bel_⟩⟩
 case round =>
  clear H'
  (try clear c2)
  obtain ⟨x7_1, x8_1, x9_1, rfl, rfl, HA, HK1, HO_7, HB⟩ := hrel
  cases gk with
  | zero => exact absurd HA.out (by simp [spec_l4Peaks.l0])
  | succ k1 =>
   have H := HA.out
   clear HA
   simp only [spec_l4Peaks.l0] at H
   by_cases c6 : x9_1 < (wrap64 ((l2.length : Int) - 1))
   ·rw [if_pos c6] at H
    have c6b0 := decide_eq_true c6
    clear c6
    by_cases c7 : 0 ≤ x9_1
    ·rw [if_pos c7] at H
     have c7b0 := decide_eq_true c7
     clear c7
     by_cases c8 : x9_1 < (l2.length : Int)
     ·rw [if_pos c8] at H
      have c8b0 := decide_eq_true c8
      clear c8
      obtain ⟨ji9, hji9⟩ : ∃ j_ : Int, (wrap64 (x9_1 + 1)) = j_ := ⟨_, rfl⟩
      replace H : (if 0 ≤ (ji9) then (if (ji9) ≤ (l2.length : Int) then ((spec_PeaksRoot.f k1 (l2.drop ((ji9) : Int).toNat)).bind fun bt731 => ((spec_l1PairText.f k1 ((rd_T29 l2 x9_1).f0) ((rd_T29 l2 x9_1).f1) ((rd_T29 l2 x9_1).f2) ((rd_T29 l2 x9_1).f3) bt731.1 bt731.2.1 bt731.2.2.1 bt731.2.2.2).bind fun t735 => (if x7_1.length < 8796093022208 then ((some (x7_1 ++ [t735] : List ByteArray)).bind fun y736 => ((spec_l2Half.f k1 (wrap64 (a0 - x8_1))).bind fun t739 => (if a1 < (wrap64 (x8_1 + t739)) then (some y736) else (spec_l4Peaks.l0 k1 a0 a1 l2 y736 (wrap64 (x8_1 + t739)) ji9)))) else (none)))) else (none)) else (none)) = some r := by first | (rw [hji9] at H; exact H) | (simp only [hji9] at H ⊢; exact H)
      have hji9w : (IntKind.i64.wrap (x9_1 + 1)) = ji9 := (i64_w _).trans hji9
      by_cases c10 : 0 ≤ (ji9)
      ·rw [if_pos c10] at H
       have c10b0 := eq_true c10
       have c10b1 := decide_eq_true c10
       clear c10
       by_cases c11 : (ji9) ≤ (l2.length : Int)
       ·rw [if_pos c11] at H
        have c11b0 := eq_true c11
        have c11b1 := decide_eq_true c11
        clear c11
        obtain ⟨y727, hy727⟩ : ∃ y_ : List (S29), y_ = (l2.drop ((ji9) : Int).toNat) := ⟨_, rfl⟩
        replace H : ((spec_PeaksRoot.f k1 y727).bind fun bt731 => ((spec_l1PairText.f k1 ((rd_T29 l2 x9_1).f0) ((rd_T29 l2 x9_1).f1) ((rd_T29 l2 x9_1).f2) ((rd_T29 l2 x9_1).f3) bt731.1 bt731.2.1 bt731.2.2.1 bt731.2.2.2).bind fun t735 => (if x7_1.length < 8796093022208 then ((some (x7_1 ++ [t735] : List ByteArray)).bind fun y736 => ((spec_l2Half.f k1 (wrap64 (a0 - x8_1))).bind fun t739 => (if a1 < (wrap64 (x8_1 + t739)) then (some y736) else (spec_l4Peaks.l0 k1 a0 a1 l2 y736 (wrap64 (x8_1 + t739)) ji9)))) else (none)))) = some r := rpl_ hy727 H
        have Ny727 := Aside0.mk hy727
        clear hy727
        obtain ⟨⟨t731, t732, t733, t734⟩, A12, H⟩ := bnd_ H
        dsimp only at H
        obtain ⟨t735, A13, H⟩ := bnd_ H
        by_cases c14 : x7_1.length < 8796093022208
        ·rw [if_pos c14] at H
         have LMc14 := Aside0.mk c14
         clear c14
         obtain ⟨y736, hy736⟩ : ∃ y_ : List ByteArray, y_ = (x7_1 ++ [t735]) := ⟨_, rfl⟩
         replace H : ((spec_l2Half.f k1 (wrap64 (a0 - x8_1))).bind fun t739 => (if a1 < (wrap64 (x8_1 + t739)) then (some y736) else (spec_l4Peaks.l0 k1 a0 a1 l2 y736 (wrap64 (x8_1 + t739)) ji9))) = some r := rpl_ hy736 H
         have Ny736 := Aside0.mk hy736
         clear hy736
         obtain ⟨t739, A15, H⟩ := bnd_ H
         by_cases c16 : a1 < (wrap64 (x8_1 + t739))
         ·rw [if_pos c16] at H
          have c16b0 := decide_eq_true c16
          clear c16
          obtain rfl := Option.some.inj H
          try go_wp2
          replace HO_7 := a_ (Kd.R_drew HO_7.out)
          replace HB := a_ (below_drew1 HB.out)
          have p726 : 0 ≤ (x9_1 : Int) := ofd_
          have q726 : x9_1 < (l2.length : Int) := ofd_
          obtain ⟨ad726, e726, hx726_0, hx726_1, hx726_2, hx726_3⟩ := at_T29 HR2.out x9_1 p726 q726
          have hw726_3 := hx726_3
          have hw726_2 := hx726_2
          have hw726_1 := hx726_1
          have hw726_0 := hx726_0
          cases e726
          replace hx726_0 := pc_ HB.out hx726_0
          replace hx726_1 := pc_ HB.out hx726_1
          replace hx726_2 := pc_ HB.out hx726_2
          replace hx726_3 := pc_ HB.out hx726_3
          replace p726 := eq_true p726
          replace q726 := eq_true q726
          have q18 : ((ji9) : Int) ≤ ((l2.length : Int) : Int) := ofd_
          obtain ⟨i018, hi018, _, hsz18, _⟩ := info_parts info29
          have hroom18 : l2.length ≤ c2 := HC2.out
          have hC18 : Kd.C k29 _ (some ad726) l2.length l2 := HR2.out
          have q018 : (0 : Int) ≤ ((ji9) : Int) := ofd_
          have hcut18 := cut_from (P := Try.prog) 49 29 .i64 Try.underlying49 hi018 4 hsz18 (some ad726) l2.length c2 (ji9) q018 q18
          have hr18 := Kd.C_drop (m := ((ji9) : Int).toNat) (c := c2) hC18 (by omega) hroom18
          obtain ⟨A18, hA18⟩ : ∃ A1, A1 = (if c2 = ((ji9) : Int).toNat then (some ad726) else ((some ad726) : Option Addr).map (·.add (((ji9) : Int).toNat * 4))) := ⟨_, rfl⟩
          obtain ⟨c18, hc18⟩ : ∃ c1, c1 = c2 - ((ji9) : Int).toNat := ⟨_, rfl⟩
          have hy18 : y727.length = l2.length - ((ji9) : Int).toNat := (by rw [Ny727.out, List.length_drop] <;> omega)
          rw [show (l2).drop ((ji9) : Int).toNat = y727 from Ny727.out.symm] at hr18
          replace hr18 : Kd.C k29 _ A18 y727.length y727 := (by rw [hA18]; exact hr18)
          rw [← hy18, ← hA18, ← hc18] at hcut18
          have HR730 := Aside0.mk hr18
          have HC730 := a_ (show y727.length ≤ c18 from by rw [hy18, hc18]; exact Nat.sub_le_sub_right hroom18 _)
          clear hr18 hC18 hroom18 hi018 hsz18 hc18
          have KY18 := Aside0.mk hy18
          have KA18 := Aside0.mk hA18
          clear hy18 hA18
          replace q18 := eq_true q18
          refine start_ (n := 14) (S := fun w' => w'.cell? (ad726.add ((x9_1).toNat * 4)) = some (.int .u64 ((rd_T29 l2 x9_1).f0)) ∧ w'.cell? ⟨(ad726.add ((x9_1).toNat * 4)).block, (ad726.add ((x9_1).toNat * 4)).off + 1, none⟩ = some (.int .u64 ((rd_T29 l2 x9_1).f1)) ∧ w'.cell? ⟨(ad726.add ((x9_1).toNat * 4)).block, (ad726.add ((x9_1).toNat * 4)).off + 2, none⟩ = some (.int .u64 ((rd_T29 l2 x9_1).f2)) ∧ w'.cell? ⟨(ad726.add ((x9_1).toNat * 4)).block, (ad726.add ((x9_1).toNat * 4)).off + 3, none⟩ = some (.int .u64 ((rd_T29 l2 x9_1).f3))) (ds := []) #[false, false, false, false, false, false, false, false, false, false, false, false, false, false] (by kernel_rfl) rfl rfl ⟨(pc_ HB.out hw726_0), (pc_ HB.out hw726_1), (pc_ HB.out hw726_2), (pc_ HB.out hw726_3)⟩ (fun hHeld => ?_); refine with_tabW spec_l4Peaks.tab5 spec_l4Peaks.bits5 (fun HT HW_ => ?_)
          generalize wr.drew = w17 at HO_7 HB HR730 hx726_0 hx726_1 hx726_2 hx726_3 hHeld ⊢
          refine pP_ 0 (some 17) (b_ 14 1) HT ?_
          refine pP_ 1 (some 18) (b_ 14 3) HT ?_
          refine pP_ 2 (some 19) (b_ 14 7) HT ?_
          refine pP_ 3 (some 20) (b_ 14 15) HT ?_
          refine pP_ 5 (some 22) (b_ 14 47) HT ?_
          refine pP_ 6 (some 23) (b_ 14 111) HT ?_
          refine pP_ 7 (some 24) (b_ 14 239) HT ?_
          refine pP_ 8 (some 25) (b_ 14 495) HT ?_
          refine takeP_ 4 (some 21) (b_ 14 511) HT HW_ hHeld ?_
          refine oneP_ 9 (some 26) (b_ 14 1023) HT (fun K hK => ?_)
          refine goN_ Try.func73 #[.slice A18 y727.length c18] ?_
          with_reducible refine (spec_PeaksRoot.calls k1 _ _ y727 t731 t732 t733 t734 _ ?side1 ?side2 A12.out).mono ?_
          (case side1 => exact cU_ (Kd.C_below HR730.out HB.out))
          (case side2 => exact HC730.out)
          rintro e w19 ⟨rfl, hb⟩
          refine ⟨_, rfl, ?_⟩
          replace HO_7 := rb_ HO_7.out hb
          replace HB := stepB_ hb
          (try clear hb); (try clear hk)
          refine hK.out _ _ ⟨(pc_ HB.out hw726_0), (pc_ HB.out hw726_1), (pc_ HB.out hw726_2), (pc_ HB.out hw726_3)⟩ (fun hHeld => ?_)
          clear hK K
          refine normP_ (some 26) ?_
          refine oneP_ 10 (some 27) (b_ 14 2047) HT (fun K hK => ?_)
          refine goN_ Try.func90 #[.agg #[.int .u64 ((rd_T29 l2 x9_1).f0), .int .u64 ((rd_T29 l2 x9_1).f1), .int .u64 ((rd_T29 l2 x9_1).f2), .int .u64 ((rd_T29 l2 x9_1).f3)], .agg #[.int .u64 t731, .int .u64 t732, .int .u64 t733, .int .u64 t734]] ?_
          with_reducible refine (spec_l1PairText.calls k1 ((rd_T29 l2 x9_1).f0) ((rd_T29 l2 x9_1).f1) ((rd_T29 l2 x9_1).f2) ((rd_T29 l2 x9_1).f3) t731 t732 t733 t734 t735 _ A13.out).mono ?_
          rintro e w20 ⟨rfl, hb⟩
          refine ⟨_, rfl, ?_⟩
          replace HO_7 := rb_ HO_7.out hb
          replace HB := stepB_ hb
          (try clear hb); (try clear hk)
          refine hK.out _ _ ⟨(pc_ HB.out hw726_0), (pc_ HB.out hw726_1), (pc_ HB.out hw726_2), (pc_ HB.out hw726_3)⟩ (fun hHeld => ?_)
          clear hK K
          refine normP_ (some 27) ?_
          refine oneP_ 11 (some 28) (b_ 14 4095) HT (fun K hK => ?_)
          refine value_ (w1 := ?_) (v := ?_) (by rfl) rfl ?_ ?_
          rotate_left 2
          ·go_simp
           constructor
           ·rfl
           ·rfl
          refine hK.out _ _ ⟨(World.cell?_alloc_lt _ _ _ (World.block_lt_of_cell? _ _ ((pc_ HB.out hw726_0)))).trans ((pc_ HB.out hw726_0)), (World.cell?_alloc_lt _ _ _ (World.block_lt_of_cell? _ _ ((pc_ HB.out hw726_1)))).trans ((pc_ HB.out hw726_1)), (World.cell?_alloc_lt _ _ _ (World.block_lt_of_cell? _ _ ((pc_ HB.out hw726_2)))).trans ((pc_ HB.out hw726_2)), (World.cell?_alloc_lt _ _ _ (World.block_lt_of_cell? _ _ ((pc_ HB.out hw726_3)))).trans ((pc_ HB.out hw726_3))⟩ (fun hHeld => ?_)
          clear hK K
          refine normP_ (some 28) ?_
          refine oneP_ 12 (some 29) (b_ 14 8191) HT (fun K hK => ?_)
          refine Kd.R_append_step Kd.string (w0 := w) w.heap.size (by rfl) (.tmp 17) (.tmp 28) 61 9 (.string ⟨#[]⟩) 16 rfl Try.underlying61 info9 rfl (by decide) (by omega) u7 x7_1 t735 [.string t735] (fun _ => True) (fun _ => False) rfl rfl ?aP (fun _ hk => hk.elim) ?aF ?aO ?aB ?aS ?aL ?_
          (case aP => exact rfl)
          (case aB => exact bel_)
          (case aF => exact (fun _ _ => trivial))
          (case aO => exact (kdU_ HO_7.out))
          (case aS => exact (below_size bel_))
          (case aL => have := LMc14.out; omega)
          intro v737 w21 ho hb hg hat
          rw [← Ny736.out] at ho
          replace HB := a_ (hb)
          have HO738 := a_ (ho)
          clear HO_7
          clear ho hb hg hat
          refine hK.out _ _ ⟨(pc_ HB.out hw726_0), (pc_ HB.out hw726_1), (pc_ HB.out hw726_2), (pc_ HB.out hw726_3)⟩ (fun hHeld => ?_)
          clear hK K
          refine normP_ (some 29) ?_
          refine pP_ 13 (some 7) (b_ 14 16383) HT ?_
          refine done_ (done_of HT.out (by kernel_rfl)) ?_
          try go_wp2_with (first | (refine gcL_ 93 (some 33) Try.func93 #[.int .i64 (wrap64 (a0 - x8_1))] ?_; (with_reducible refine (spec_l2Half.calls k1 (wrap64 (a0 - x8_1)) t739 _ A15.out).mono ?_); rintro e w' ⟨rfl, ⟨nd, rfl⟩⟩; refine ⟨_, rfl, ?_⟩))
          go_ret
          exact ⟨_, by first | rfl | (simp [errW_none, errW_some] <;> rfl) | (simp only [← hji9]; first | rfl | (simp [errW_none, errW_some] <;> rfl)) | (simp [*, errW_none, errW_some] <;> rfl), by (with_reducible repeat (first | apply Kd.R_alloc | apply Kd.R_drewN | apply Kd.R_drew)); exact HO738.out, bel_⟩
         ·rw [if_neg c16] at H
          have c16b0 := decide_eq_false c16
          clear c16
          have H' := Aside0.mk H
          clear H
          try go_wp2
          replace HO_7 := a_ (Kd.R_drew HO_7.out)
          replace HB := a_ (below_drew1 HB.out)
          have p726 : 0 ≤ (x9_1 : Int) := ofd_
          have q726 : x9_1 < (l2.length : Int) := ofd_
          obtain ⟨ad726, e726, hx726_0, hx726_1, hx726_2, hx726_3⟩ := at_T29 HR2.out x9_1 p726 q726
          have hw726_3 := hx726_3
          have hw726_2 := hx726_2
          have hw726_1 := hx726_1
          have hw726_0 := hx726_0
          cases e726
          replace hx726_0 := pc_ HB.out hx726_0
          replace hx726_1 := pc_ HB.out hx726_1
          replace hx726_2 := pc_ HB.out hx726_2
          replace hx726_3 := pc_ HB.out hx726_3
          replace p726 := eq_true p726
          replace q726 := eq_true q726
          have q23 : ((ji9) : Int) ≤ ((l2.length : Int) : Int) := ofd_
          obtain ⟨i023, hi023, _, hsz23, _⟩ := info_parts info29
          have hroom23 : l2.length ≤ c2 := HC2.out
          have hC23 : Kd.C k29 _ (some ad726) l2.length l2 := HR2.out
          have q023 : (0 : Int) ≤ ((ji9) : Int) := ofd_
          have hcut23 := cut_from (P := Try.prog) 49 29 .i64 Try.underlying49 hi023 4 hsz23 (some ad726) l2.length c2 (ji9) q023 q23
          have hr23 := Kd.C_drop (m := ((ji9) : Int).toNat) (c := c2) hC23 (by omega) hroom23
          obtain ⟨A23, hA23⟩ : ∃ A1, A1 = (if c2 = ((ji9) : Int).toNat then (some ad726) else ((some ad726) : Option Addr).map (·.add (((ji9) : Int).toNat * 4))) := ⟨_, rfl⟩
          obtain ⟨c23, hc23⟩ : ∃ c1, c1 = c2 - ((ji9) : Int).toNat := ⟨_, rfl⟩
          have hy23 : y727.length = l2.length - ((ji9) : Int).toNat := (by rw [Ny727.out, List.length_drop] <;> omega)
          rw [show (l2).drop ((ji9) : Int).toNat = y727 from Ny727.out.symm] at hr23
          replace hr23 : Kd.C k29 _ A23 y727.length y727 := (by rw [hA23]; exact hr23)
          rw [← hy23, ← hA23, ← hc23] at hcut23
          have HR730 := Aside0.mk hr23
          have HC730 := a_ (show y727.length ≤ c23 from by rw [hy23, hc23]; exact Nat.sub_le_sub_right hroom23 _)
          clear hr23 hC23 hroom23 hi023 hsz23 hc23
          have KY23 := Aside0.mk hy23
          have KA23 := Aside0.mk hA23
          clear hy23 hA23
          replace q23 := eq_true q23
          refine start_ (n := 14) (S := fun w' => w'.cell? (ad726.add ((x9_1).toNat * 4)) = some (.int .u64 ((rd_T29 l2 x9_1).f0)) ∧ w'.cell? ⟨(ad726.add ((x9_1).toNat * 4)).block, (ad726.add ((x9_1).toNat * 4)).off + 1, none⟩ = some (.int .u64 ((rd_T29 l2 x9_1).f1)) ∧ w'.cell? ⟨(ad726.add ((x9_1).toNat * 4)).block, (ad726.add ((x9_1).toNat * 4)).off + 2, none⟩ = some (.int .u64 ((rd_T29 l2 x9_1).f2)) ∧ w'.cell? ⟨(ad726.add ((x9_1).toNat * 4)).block, (ad726.add ((x9_1).toNat * 4)).off + 3, none⟩ = some (.int .u64 ((rd_T29 l2 x9_1).f3))) (ds := []) #[false, false, false, false, false, false, false, false, false, false, false, false, false, false] (by kernel_rfl) rfl rfl ⟨(pc_ HB.out hw726_0), (pc_ HB.out hw726_1), (pc_ HB.out hw726_2), (pc_ HB.out hw726_3)⟩ (fun hHeld => ?_); refine with_tabW spec_l4Peaks.tab5 spec_l4Peaks.bits5 (fun HT HW_ => ?_)
          generalize wr.drew = w22 at HO_7 HB HR730 hx726_0 hx726_1 hx726_2 hx726_3 hHeld ⊢
          refine pP_ 0 (some 17) (b_ 14 1) HT ?_
          refine pP_ 1 (some 18) (b_ 14 3) HT ?_
          refine pP_ 2 (some 19) (b_ 14 7) HT ?_
          refine pP_ 3 (some 20) (b_ 14 15) HT ?_
          refine pP_ 5 (some 22) (b_ 14 47) HT ?_
          refine pP_ 6 (some 23) (b_ 14 111) HT ?_
          refine pP_ 7 (some 24) (b_ 14 239) HT ?_
          refine pP_ 8 (some 25) (b_ 14 495) HT ?_
          refine takeP_ 4 (some 21) (b_ 14 511) HT HW_ hHeld ?_
          refine oneP_ 9 (some 26) (b_ 14 1023) HT (fun K hK => ?_)
          refine goN_ Try.func73 #[.slice A23 y727.length c23] ?_
          with_reducible refine (spec_PeaksRoot.calls k1 _ _ y727 t731 t732 t733 t734 _ ?side1 ?side2 A12.out).mono ?_
          (case side1 => exact cU_ (Kd.C_below HR730.out HB.out))
          (case side2 => exact HC730.out)
          rintro e w24 ⟨rfl, hb⟩
          refine ⟨_, rfl, ?_⟩
          replace HO_7 := rb_ HO_7.out hb
          replace HB := stepB_ hb
          (try clear hb); (try clear hk)
          refine hK.out _ _ ⟨(pc_ HB.out hw726_0), (pc_ HB.out hw726_1), (pc_ HB.out hw726_2), (pc_ HB.out hw726_3)⟩ (fun hHeld => ?_)
          clear hK K
          refine normP_ (some 26) ?_
          refine oneP_ 10 (some 27) (b_ 14 2047) HT (fun K hK => ?_)
          refine goN_ Try.func90 #[.agg #[.int .u64 ((rd_T29 l2 x9_1).f0), .int .u64 ((rd_T29 l2 x9_1).f1), .int .u64 ((rd_T29 l2 x9_1).f2), .int .u64 ((rd_T29 l2 x9_1).f3)], .agg #[.int .u64 t731, .int .u64 t732, .int .u64 t733, .int .u64 t734]] ?_
          with_reducible refine (spec_l1PairText.calls k1 ((rd_T29 l2 x9_1).f0) ((rd_T29 l2 x9_1).f1) ((rd_T29 l2 x9_1).f2) ((rd_T29 l2 x9_1).f3) t731 t732 t733 t734 t735 _ A13.out).mono ?_
          rintro e w25 ⟨rfl, hb⟩
          refine ⟨_, rfl, ?_⟩
          replace HO_7 := rb_ HO_7.out hb
          replace HB := stepB_ hb
          (try clear hb); (try clear hk)
          refine hK.out _ _ ⟨(pc_ HB.out hw726_0), (pc_ HB.out hw726_1), (pc_ HB.out hw726_2), (pc_ HB.out hw726_3)⟩ (fun hHeld => ?_)
          clear hK K
          refine normP_ (some 27) ?_
          refine oneP_ 11 (some 28) (b_ 14 4095) HT (fun K hK => ?_)
          refine value_ (w1 := ?_) (v := ?_) (by rfl) rfl ?_ ?_
          rotate_left 2
          ·go_simp
           constructor
           ·rfl
           ·rfl
          refine hK.out _ _ ⟨(World.cell?_alloc_lt _ _ _ (World.block_lt_of_cell? _ _ ((pc_ HB.out hw726_0)))).trans ((pc_ HB.out hw726_0)), (World.cell?_alloc_lt _ _ _ (World.block_lt_of_cell? _ _ ((pc_ HB.out hw726_1)))).trans ((pc_ HB.out hw726_1)), (World.cell?_alloc_lt _ _ _ (World.block_lt_of_cell? _ _ ((pc_ HB.out hw726_2)))).trans ((pc_ HB.out hw726_2)), (World.cell?_alloc_lt _ _ _ (World.block_lt_of_cell? _ _ ((pc_ HB.out hw726_3)))).trans ((pc_ HB.out hw726_3))⟩ (fun hHeld => ?_)
          clear hK K
          refine normP_ (some 28) ?_
          refine oneP_ 12 (some 29) (b_ 14 8191) HT (fun K hK => ?_)
          refine Kd.R_append_step Kd.string (w0 := w) w.heap.size (by rfl) (.tmp 17) (.tmp 28) 61 9 (.string ⟨#[]⟩) 16 rfl Try.underlying61 info9 rfl (by decide) (by omega) u7 x7_1 t735 [.string t735] (fun _ => True) (fun _ => False) rfl rfl ?aP (fun _ hk => hk.elim) ?aF ?aO ?aB ?aS ?aL ?_
          (case aP => exact rfl)
          (case aB => exact bel_)
          (case aF => exact (fun _ _ => trivial))
          (case aO => exact (kdU_ HO_7.out))
          (case aS => exact (below_size bel_))
          (case aL => have := LMc14.out; omega)
          intro v737 w26 ho hb hg hat
          rw [← Ny736.out] at ho
          replace HB := a_ (hb)
          have HO738 := a_ (ho)
          clear HO_7
          clear ho hb hg hat
          refine hK.out _ _ ⟨(pc_ HB.out hw726_0), (pc_ HB.out hw726_1), (pc_ HB.out hw726_2), (pc_ HB.out hw726_3)⟩ (fun hHeld => ?_)
          clear hK K
          refine normP_ (some 29) ?_
          refine pP_ 13 (some 7) (b_ 14 16383) HT ?_
          refine done_ (done_of HT.out (by kernel_rfl)) ?_
          try go_wp2_with (first | (refine gcL_ 93 (some 33) Try.func93 #[.int .i64 (wrap64 (a0 - x8_1))] ?_; (with_reducible refine (spec_l2Half.calls k1 (wrap64 (a0 - x8_1)) t739 _ A15.out).mono ?_); rintro e w' ⟨rfl, ⟨nd, rfl⟩⟩; refine ⟨_, rfl, ?_⟩))
          go_roundg k1
          case measure => have := HK1.out; omega
          case rel => exact ⟨(y736), (wrap64 (x8_1 + t739)), (ji9), rl_, (by first | rfl | (simp; done) | (simp only [← hji9] <;> (first | rfl | simp)) | (simp [*]; done)), H', ⟨by have := HK1.out; omega⟩, ⟨kdU_ HO738.out⟩, ⟨bel_⟩⟩
        ·rw [if_neg c14] at H
         exact absurd H (by simp)
       ·rw [if_neg c11] at H
        exact absurd H (by simp)
      ·rw [if_neg c10] at H
       exact absurd H (by simp)
     ·rw [if_neg c8] at H
      exact absurd H (by simp)
    ·rw [if_neg c7] at H
     exact absurd H (by simp)
   ·rw [if_neg c6] at H
    have c6b0 := decide_eq_false c6
    clear c6
    obtain rfl := Option.some.inj H
    go_wp2
    go_ret
    exact ⟨_, rfl_, by (with_reducible repeat (first | apply Kd.R_alloc | apply Kd.R_drewN | apply Kd.R_drew)); exact HO_7.out, bel_⟩
end
end
end Go.Proofs.Ytflckegggopdnaa.B
