/- What the Go functions loop.example/belfry/spec.HashBytes, loop.example/belfry/spec.l1PairText, loop.example/belfry/spec.HashPair, loop.example/belfry/spec.l1LeafText, loop.example/belfry/spec.HashLeaf do is what the Lean functions .f of their names here say; condition: .f gives an answer. (Written by the session's program pp.py over the kit's print; Lean checks it.) -/
import Derived.Test.YtflckegggopdnaaZCEK
import Derived.Test.YtflckegggopdnaaZCEM
import Derived.Test.YtflckegggopdnaaZCEGSpecHash1
namespace Go.Proofs.Ytflckegggopdnaa.B
open Go.RowKit Go.Proofs.YtflckegggopdnaaW.PrintWords Go.Proofs.YtflckegggopdnaaW.PrintLast Go.Proofs.YtflckegggopdnaaW.PrintMore
attribute [local go_sem] max2_int min2_int max_two min_two max_three min_three max_four min_four
set_option linter.unusedVariables false
set_option linter.unusedSimpArgs false
section
def spec_HashBytes.f (k : Nat) (a0_0 : Int) (a0_1 : Int) (a0_2 : Int) (a0_3 : Int) : Option (ByteArray) := (spec_l1Bytes.f k a0_0).bind fun t154 => ((spec_l1Bytes.f k a0_1).bind fun t155 => (if t154.size + t155.size ≤ 9223372036854775807 then ((spec_l1Bytes.f k a0_2).bind fun t156 => (if (t154 ++ t155).size + t156.size ≤ 9223372036854775807 then ((spec_l1Bytes.f k a0_3).bind fun t157 => (if ((t154 ++ t155) ++ t156).size + t157.size ≤ 9223372036854775807 then (some (((t154 ++ t155) ++ t156) ++ t157)) else (none))) else (none))) else (none)))
def spec_HashBytes.T1 : Bool × List (List Nat × List Nat) := (true, [([], []), ([0], [0]), ([1], [1]), ([], []), ([3], [3]), ([4, 2], [4]), ([2, 5], [2, 5]), ([], []), ([7], [7]), ([8, 5], [8]), ([6, 9], [6, 9]), ([], []), ([11], [11]), ([12, 9], [12]), ([10, 13], [10, 13]), ([14, 13, 0, 1, 2, 3, 4, 5, 6, 7, 8, 9, 10, 11, 12, 13, 14], [14])])
def spec_HashBytes.B1 : List Nat := [0, 1, 3, 0, 8, 31, 63, 0, 128, 447, 1023, 0, 2048, 7103, 16383, 32767]
theorem spec_HashBytes.tab1 : rtab .any (opsOf Try.f122 1) = spec_HashBytes.T1 := by kernel_rfl
theorem spec_HashBytes.bits1 : waitsOk spec_HashBytes.T1.2 spec_HashBytes.B1 = true := by kernel_rfl
set_option maxHeartbeats 8000000 in
set_option maxRecDepth 100000 in
theorem spec_HashBytes.calls (k : Nat) (a0_0 : Int) (a0_1 : Int) (a0_2 : Int) (a0_3 : Int) (r : ByteArray) (w : World) (h : spec_HashBytes.f k a0_0 a0_1 a0_2 a0_3 = some r) :
    Calls Try.prog 122 #[.agg #[.int .u64 a0_0, .int .u64 a0_1, .int .u64 a0_2, .int .u64 a0_3]] w fun e w' => e = .returned (.string r) ∧ Below w.heap.size w w' := by
  have hu29 := Try.underlying29
  have HB := Aside0.mk (Below.refl w.heap.size w)
  have H : ((spec_l1Bytes.f k a0_0).bind fun t154 => ((spec_l1Bytes.f k a0_1).bind fun t155 => (if t154.size + t155.size ≤ 9223372036854775807 then ((spec_l1Bytes.f k a0_2).bind fun t156 => (if (t154 ++ t155).size + t156.size ≤ 9223372036854775807 then ((spec_l1Bytes.f k a0_3).bind fun t157 => (if ((t154 ++ t155) ++ t156).size + t157.size ≤ 9223372036854775807 then (some (((t154 ++ t155) ++ t156) ++ t157)) else (none))) else (none))) else (none)))) = some r := h
  clear h
  obtain ⟨t154, A2, H⟩ := bnd_ H
  obtain ⟨t155, A3, H⟩ := bnd_ H
  by_cases c4 : t154.size + t155.size ≤ 9223372036854775807
  · rw [if_pos c4] at H
    have c4b0 := eq_true c4
    have c4b1 : decide (t154.size + t155.size ≤ 9223372036854775807) = true := decide_eq_true c4
    try have c4b2 : (9223372036854775807 < t154.size + t155.size) = False := eq_false (Nat.not_lt.2 c4)
    obtain ⟨t156, A5, H⟩ := bnd_ H
    by_cases c6 : (t154 ++ t155).size + t156.size ≤ 9223372036854775807
    · rw [if_pos c6] at H
      have c6b0 := eq_true c6
      have c6b1 : decide ((t154 ++ t155).size + t156.size ≤ 9223372036854775807) = true := decide_eq_true c6
      try (have c6b1n := c6b1; simp only [ByteArray.size_append, Int.natCast_add] at c6b1n)
      try have c6b2 : (9223372036854775807 < (t154 ++ t155).size + t156.size) = False := eq_false (Nat.not_lt.2 c6)
      obtain ⟨t157, A7, H⟩ := bnd_ H
      by_cases c8 : ((t154 ++ t155) ++ t156).size + t157.size ≤ 9223372036854775807
      · rw [if_pos c8] at H
        have c8b0 := eq_true c8
        have c8b1 : decide (((t154 ++ t155) ++ t156).size + t157.size ≤ 9223372036854775807) = true := decide_eq_true c8
        try (have c8b1n := c8b1; simp only [ByteArray.size_append, Int.natCast_add] at c8b1n)
        try have c8b2 : (9223372036854775807 < ((t154 ++ t155) ++ t156).size + t157.size) = False := eq_false (Nat.not_lt.2 c8)
        obtain rfl := Option.some.inj H
        go_enter Try.func122, Try.ntmps122
        try go_wp2_with (first | ((with_reducible refine gate_dst (N := 1) rfl ?_); refine boxE_ (cs := #[.int .u64 a0_0, .int .u64 a0_1, .int .u64 a0_2, .int .u64 a0_3]) (t := 29) ?_; intro gb153 hg w9 hbox hb; have BK153 := Aside0.mk (hbox); have GW153 := sizeB_ hg; have GE153 := sizeB_ hg; replace HB := stepB_ hb; clear hb hbox hg))
        replace BK153 := Aside0.mk (blk_drew BK153.out)
        replace HB := Aside0.mk (below_drew1 HB.out)
        refine start_ (n := 16) (S := fun w' => w'.cell? ⟨gb153, 0, none⟩ = some (.int .u64 a0_0) ∧ w'.cell? ⟨gb153, 1, none⟩ = some (.int .u64 a0_1) ∧ w'.cell? ⟨gb153, 2, none⟩ = some (.int .u64 a0_2) ∧ w'.cell? ⟨gb153, 3, none⟩ = some (.int .u64 a0_3)) (ds := []) #[false, false, false, false, false, false, false, false, false, false, false, false, false, false, false, false] (by kernel_rfl) rfl rfl ⟨(blk_cell BK153.out 0).trans rfl, (blk_cell BK153.out 1).trans rfl, (blk_cell BK153.out 2).trans rfl, (blk_cell BK153.out 3).trans rfl⟩ (fun hHeld => ?_); refine with_tabW spec_HashBytes.tab1 spec_HashBytes.bits1 (fun HT_ HW_ => ?_)
        generalize w9.drew = w10 at BK153 HB hHeld ⊢
        refine pure_ (i := 0) (N := some 3) (v := ?_) (a' := ?_) #[true, false, false, false, false, false, false, false, false, false, false, false, false, false, false, false] rfl rfl (any_of HT_.out (by kernel_rfl)) (fun _ _ _ h => h) (Or.inl ⟨by rfl, ?_⟩) ?_ ?_
        rotate_left
        · intro w'
          go_simp
          first | with_reducible rfl | (rw [if_neg (by intro h_; (try simp only [ByteArray.size_append, ByteArray.size_extract, eq_iff_iff, iff_true] at *); omega)]; first | done | rfl)
        rotate_left
        · simp only [Act.put, List.setIfInBounds_toArray, List.set_cons_zero, List.set_cons_succ, i64_w, i32_w]
          rfl
        refine pure_ (i := 3) (N := some 6) (v := ?_) (a' := ?_) #[true, false, false, true, false, false, false, false, false, false, false, false, false, false, false, false] rfl rfl (any_of HT_.out (by kernel_rfl)) (fun _ _ _ h => h) (Or.inl ⟨by rfl, ?_⟩) ?_ ?_
        rotate_left
        · intro w'
          go_simp
          first | with_reducible rfl | (rw [if_neg (by intro h_; (try simp only [ByteArray.size_append, ByteArray.size_extract, eq_iff_iff, iff_true] at *); omega)]; first | done | rfl)
        rotate_left
        · simp only [Act.put, List.setIfInBounds_toArray, List.set_cons_zero, List.set_cons_succ, i64_w, i32_w]
          rfl
        refine pure_ (i := 7) (N := some 10) (v := ?_) (a' := ?_) #[true, false, false, true, false, false, false, true, false, false, false, false, false, false, false, false] rfl rfl (any_of HT_.out (by kernel_rfl)) (fun _ _ _ h => h) (Or.inl ⟨by rfl, ?_⟩) ?_ ?_
        rotate_left
        · intro w'
          go_simp
          first | with_reducible rfl | (rw [if_neg (by intro h_; (try simp only [ByteArray.size_append, ByteArray.size_extract, eq_iff_iff, iff_true] at *); omega)]; first | done | rfl)
        rotate_left
        · simp only [Act.put, List.setIfInBounds_toArray, List.set_cons_zero, List.set_cons_succ, i64_w, i32_w]
          rfl
        refine pure_ (i := 11) (N := some 14) (v := ?_) (a' := ?_) #[true, false, false, true, false, false, false, true, false, false, false, true, false, false, false, false] rfl rfl (any_of HT_.out (by kernel_rfl)) (fun _ _ _ h => h) (Or.inl ⟨by rfl, ?_⟩) ?_ ?_
        rotate_left
        · intro w'
          go_simp
          first | with_reducible rfl | (rw [if_neg (by intro h_; (try simp only [ByteArray.size_append, ByteArray.size_extract, eq_iff_iff, iff_true] at *); omega)]; first | done | rfl)
        rotate_left
        · simp only [Act.put, List.setIfInBounds_toArray, List.set_cons_zero, List.set_cons_succ, i64_w, i32_w]
          rfl
        refine takeP_ 1 (some 4) #[true, true, false, true, false, false, false, true, false, false, false, true, false, false, false, false] HT_ HW_ hHeld ?_
        refine takeP_ 4 (some 7) #[true, true, false, true, true, false, false, true, false, false, false, true, false, false, false, false] HT_ HW_ hHeld ?_
        refine takeP_ 8 (some 11) #[true, true, false, true, true, false, false, true, true, false, false, true, false, false, false, false] HT_ HW_ hHeld ?_
        refine takeP_ 12 (some 15) #[true, true, false, true, true, false, false, true, true, false, false, true, true, false, false, false] HT_ HW_ hHeld ?_
        refine oneP_ 2 (some 5) #[true, true, true, true, true, false, false, true, true, false, false, true, true, false, false, false] HT_ (fun K hK => ?_)
        refine goN_ Try.func116 #[.int .u64 a0_0] ?_
        with_reducible refine (spec_l1Bytes.calls k a0_0 t154 _ A2.out).mono ?_
        rintro e w11 ⟨rfl, hb⟩
        refine ⟨_, rfl, ?_⟩
        replace BK153 := blkBel_ BK153.out hb
        replace HB := stepB_ hb
        (try clear hb)
        refine hK.out _ _ ⟨(blk_cell BK153.out 0).trans rfl, (blk_cell BK153.out 1).trans rfl, (blk_cell BK153.out 2).trans rfl, (blk_cell BK153.out 3).trans rfl⟩ (fun hHeld => ?_)
        clear hK K
        refine norm_ (a' := ?_) ?_ ?_
        rotate_left
        · show Act.put _ (some 5) _ = _
          simp only [Act.put, List.setIfInBounds_toArray, List.set_cons_zero, List.set_cons_succ, i64_w, i32_w]
          rfl
        refine oneP_ 5 (some 8) #[true, true, true, true, true, true, false, true, true, false, false, true, true, false, false, false] HT_ (fun K hK => ?_)
        refine goN_ Try.func116 #[.int .u64 a0_1] ?_
        with_reducible refine (spec_l1Bytes.calls k a0_1 t155 _ A3.out).mono ?_
        rintro e w12 ⟨rfl, hb⟩
        refine ⟨_, rfl, ?_⟩
        replace BK153 := blkBel_ BK153.out hb
        replace HB := stepB_ hb
        (try clear hb)
        refine hK.out _ _ ⟨(blk_cell BK153.out 0).trans rfl, (blk_cell BK153.out 1).trans rfl, (blk_cell BK153.out 2).trans rfl, (blk_cell BK153.out 3).trans rfl⟩ (fun hHeld => ?_)
        clear hK K
        refine norm_ (a' := ?_) ?_ ?_
        rotate_left
        · show Act.put _ (some 8) _ = _
          simp only [Act.put, List.setIfInBounds_toArray, List.set_cons_zero, List.set_cons_succ, i64_w, i32_w]
          rfl
        refine pure_ (i := 6) (N := some 9) (v := ?_) (a' := ?_) #[true, true, true, true, true, true, true, true, true, false, false, true, true, false, false, false] rfl rfl (any_of HT_.out (by kernel_rfl)) (fun _ _ _ h => h) (Or.inl ⟨by rfl, ?_⟩) ?_ ?_
        rotate_left
        · intro w'
          go_simp
          first | with_reducible rfl | (rw [if_neg (by intro h_; (try simp only [ByteArray.size_append, ByteArray.size_extract, eq_iff_iff, iff_true] at *); omega)]; first | done | rfl)
        rotate_left
        · simp only [Act.put, List.setIfInBounds_toArray, List.set_cons_zero, List.set_cons_succ, i64_w, i32_w]
          rfl
        refine oneP_ 9 (some 12) #[true, true, true, true, true, true, true, true, true, true, false, true, true, false, false, false] HT_ (fun K hK => ?_)
        refine goN_ Try.func116 #[.int .u64 a0_2] ?_
        with_reducible refine (spec_l1Bytes.calls k a0_2 t156 _ A5.out).mono ?_
        rintro e w13 ⟨rfl, hb⟩
        refine ⟨_, rfl, ?_⟩
        replace BK153 := blkBel_ BK153.out hb
        replace HB := stepB_ hb
        (try clear hb)
        refine hK.out _ _ ⟨(blk_cell BK153.out 0).trans rfl, (blk_cell BK153.out 1).trans rfl, (blk_cell BK153.out 2).trans rfl, (blk_cell BK153.out 3).trans rfl⟩ (fun hHeld => ?_)
        clear hK K
        refine norm_ (a' := ?_) ?_ ?_
        rotate_left
        · show Act.put _ (some 12) _ = _
          simp only [Act.put, List.setIfInBounds_toArray, List.set_cons_zero, List.set_cons_succ, i64_w, i32_w]
          rfl
        refine pure_ (i := 10) (N := some 13) (v := ?_) (a' := ?_) #[true, true, true, true, true, true, true, true, true, true, true, true, true, false, false, false] rfl rfl (any_of HT_.out (by kernel_rfl)) (fun _ _ _ h => h) (Or.inl ⟨by rfl, ?_⟩) ?_ ?_
        rotate_left
        · intro w'
          go_simp
          first | with_reducible rfl | (rw [if_neg (by intro h_; (try simp only [ByteArray.size_append, ByteArray.size_extract, eq_iff_iff, iff_true] at *); omega)]; first | done | rfl)
        rotate_left
        · simp only [Act.put, List.setIfInBounds_toArray, List.set_cons_zero, List.set_cons_succ, i64_w, i32_w]
          rfl
        refine oneP_ 13 (some 16) #[true, true, true, true, true, true, true, true, true, true, true, true, true, true, false, false] HT_ (fun K hK => ?_)
        refine goN_ Try.func116 #[.int .u64 a0_3] ?_
        with_reducible refine (spec_l1Bytes.calls k a0_3 t157 _ A7.out).mono ?_
        rintro e w14 ⟨rfl, hb⟩
        refine ⟨_, rfl, ?_⟩
        replace BK153 := blkBel_ BK153.out hb
        replace HB := stepB_ hb
        (try clear hb)
        refine hK.out _ _ ⟨(blk_cell BK153.out 0).trans rfl, (blk_cell BK153.out 1).trans rfl, (blk_cell BK153.out 2).trans rfl, (blk_cell BK153.out 3).trans rfl⟩ (fun hHeld => ?_)
        clear hK K
        refine norm_ (a' := ?_) ?_ ?_
        rotate_left
        · show Act.put _ (some 16) _ = _
          simp only [Act.put, List.setIfInBounds_toArray, List.set_cons_zero, List.set_cons_succ, i64_w, i32_w]
          rfl
        refine pure_ (i := 14) (N := some 17) (v := ?_) (a' := ?_) #[true, true, true, true, true, true, true, true, true, true, true, true, true, true, true, false] rfl rfl (any_of HT_.out (by kernel_rfl)) (fun _ _ _ h => h) (Or.inl ⟨by rfl, ?_⟩) ?_ ?_
        rotate_left
        · intro w'
          go_simp
          first | with_reducible rfl | (rw [if_neg (by intro h_; (try simp only [ByteArray.size_append, ByteArray.size_extract, eq_iff_iff, iff_true] at *); omega)]; first | done | rfl)
        rotate_left
        · simp only [Act.put, List.setIfInBounds_toArray, List.set_cons_zero, List.set_cons_succ, i64_w, i32_w]
          rfl
        refine pure_ (i := 15) (N := some 2) (v := ?_) (a' := ?_) #[true, true, true, true, true, true, true, true, true, true, true, true, true, true, true, true] rfl rfl (any_of HT_.out (by kernel_rfl)) (fun _ _ _ h => h) (Or.inl ⟨by rfl, ?_⟩) ?_ ?_
        rotate_left
        · intro w'
          go_simp
          first | with_reducible rfl | (rw [if_neg (by intro h_; (try simp only [ByteArray.size_append, ByteArray.size_extract, eq_iff_iff, iff_true] at *); omega)]; first | done | rfl)
        rotate_left
        · simp only [Act.put, List.setIfInBounds_toArray, List.set_cons_zero, List.set_cons_succ, i64_w, i32_w]
          rfl
        refine done_ (done_of HT_.out (by kernel_rfl)) ?_
        try go_wp2
        go_ret
        exact ⟨rfl_, bel_⟩
      · rw [if_neg c8] at H
        exact absurd H (by simp)
    · rw [if_neg c6] at H
      exact absurd H (by simp)
  · rw [if_neg c4] at H
    exact absurd H (by simp)
end
section
def spec_l1PairText.f (k : Nat) (a0_0 : Int) (a0_1 : Int) (a0_2 : Int) (a0_3 : Int) (a1_0 : Int) (a1_1 : Int) (a1_2 : Int) (a1_3 : Int) : Option (ByteArray) := (some (([1] : List Int) : List Int)).bind fun y160 => ((spec_HashBytes.f k a0_0 a0_1 a0_2 a0_3).bind fun t163 => (if (strOfNums y160).size + t163.size ≤ 9223372036854775807 then ((spec_HashBytes.f k a1_0 a1_1 a1_2 a1_3).bind fun t164 => (if ((strOfNums y160) ++ t163).size + t164.size ≤ 9223372036854775807 then (some (((strOfNums y160) ++ t163) ++ t164)) else (none))) else (none)))
def spec_l1PairText.T1 : Bool × List (List Nat × List Nat) := (true, [([], []), ([0], [0]), ([], []), ([2], [2]), ([1, 3], [1, 3]), ([], []), ([5, 3], [5]), ([4, 6], [4, 6]), ([7, 6, 0, 1, 2, 3, 4, 5, 6, 7], [7])])
def spec_l1PairText.B1 : List Nat := [0, 1, 0, 4, 15, 0, 44, 127, 255]
theorem spec_l1PairText.tab1 : rtab .any (opsOf Try.f90 1) = spec_l1PairText.T1 := by kernel_rfl
theorem spec_l1PairText.bits1 : waitsOk spec_l1PairText.T1.2 spec_l1PairText.B1 = true := by kernel_rfl
set_option maxHeartbeats 8000000 in
set_option maxRecDepth 100000 in
theorem spec_l1PairText.calls (k : Nat) (a0_0 : Int) (a0_1 : Int) (a0_2 : Int) (a0_3 : Int) (a1_0 : Int) (a1_1 : Int) (a1_2 : Int) (a1_3 : Int) (r : ByteArray) (w : World) (h : spec_l1PairText.f k a0_0 a0_1 a0_2 a0_3 a1_0 a1_1 a1_2 a1_3 = some r) :
    Calls Try.prog 90 #[.agg #[.int .u64 a0_0, .int .u64 a0_1, .int .u64 a0_2, .int .u64 a0_3], .agg #[.int .u64 a1_0, .int .u64 a1_1, .int .u64 a1_2, .int .u64 a1_3]] w fun e w' => e = .returned (.string r) ∧ Below w.heap.size w w' := by
  have hu29 := Try.underlying29
  have HB := Aside0.mk (Below.refl w.heap.size w)
  have H : ((some (([1] : List Int) : List Int)).bind fun y160 => ((spec_HashBytes.f k a0_0 a0_1 a0_2 a0_3).bind fun t163 => (if (strOfNums y160).size + t163.size ≤ 9223372036854775807 then ((spec_HashBytes.f k a1_0 a1_1 a1_2 a1_3).bind fun t164 => (if ((strOfNums y160) ++ t163).size + t164.size ≤ 9223372036854775807 then (some (((strOfNums y160) ++ t163) ++ t164)) else (none))) else (none)))) = some r := h
  clear h
  obtain ⟨y160, hy160⟩ : ∃ y_ : List Int, y_ = (([1] : List Int)) := ⟨_, rfl⟩
  replace H : ((spec_HashBytes.f k a0_0 a0_1 a0_2 a0_3).bind fun t163 => (if (strOfNums y160).size + t163.size ≤ 9223372036854775807 then ((spec_HashBytes.f k a1_0 a1_1 a1_2 a1_3).bind fun t164 => (if ((strOfNums y160) ++ t163).size + t164.size ≤ 9223372036854775807 then (some (((strOfNums y160) ++ t163) ++ t164)) else (none))) else (none))) = some r := by first | (rw [hy160]; with_reducible exact H) | (have H2_ := (Option.bind_some _ _).symm.trans H; rw [hy160]; with_reducible exact H2_) | (have H2_ := (Option.bind_some _ _).symm.trans H; with_reducible exact H2_) | with_reducible exact H | (rw [hy160]; exact H) | exact H
  have Ny160 := Aside0.mk hy160
  clear hy160
  obtain ⟨t163, A3, H⟩ := bnd_ H
  by_cases c4 : (strOfNums y160).size + t163.size ≤ 9223372036854775807
  · rw [if_pos c4] at H
    have c4b0 := eq_true c4
    have c4b1 : decide ((strOfNums y160).size + t163.size ≤ 9223372036854775807) = true := decide_eq_true c4
    try have c4b2 : (9223372036854775807 < (strOfNums y160).size + t163.size) = False := eq_false (Nat.not_lt.2 c4)
    obtain ⟨t164, A5, H⟩ := bnd_ H
    by_cases c6 : ((strOfNums y160) ++ t163).size + t164.size ≤ 9223372036854775807
    · rw [if_pos c6] at H
      have c6b0 := eq_true c6
      have c6b1 : decide (((strOfNums y160) ++ t163).size + t164.size ≤ 9223372036854775807) = true := decide_eq_true c6
      try (have c6b1n := c6b1; simp only [ByteArray.size_append, Int.natCast_add] at c6b1n)
      try have c6b2 : (9223372036854775807 < ((strOfNums y160) ++ t163).size + t164.size) = False := eq_false (Nat.not_lt.2 c6)
      obtain rfl := Option.some.inj H
      go_enter Try.func90, Try.ntmps90
      try go_wp2_with (first | ((with_reducible refine gate_dst (N := 2) rfl ?_); refine boxE_ (cs := #[.int .u64 a0_0, .int .u64 a0_1, .int .u64 a0_2, .int .u64 a0_3]) (t := 29) ?_; intro gb158 hg w7 hbox hb; have BK158 := Aside0.mk (hbox); have GW158 := sizeB_ hg; have GE158 := sizeB_ hg; replace HB := stepB_ hb; clear hb hbox hg) | ((with_reducible refine gate_dst (N := 3) rfl ?_); refine boxE_ (cs := #[.int .u64 a1_0, .int .u64 a1_1, .int .u64 a1_2, .int .u64 a1_3]) (t := 29) ?_; intro gb159 hg w8 hbox hb; have BK159 := Aside0.mk (hbox); have GW159 := sizeB_ hg; have GE159 := sizeB_ hg; replace HB := stepB_ hb; have NB158_159 := neL_ BK158.out hg; have NB159_158 := neG_ BK158.out hg; replace BK158 := blkBel_ BK158.out hb; clear hb hbox hg))
      replace BK158 := Aside0.mk (blk_drew BK158.out)
      replace BK159 := Aside0.mk (blk_drew BK159.out)
      replace HB := Aside0.mk (below_drew1 HB.out)
      refine start_ (n := 9) (S := fun w' => w'.cell? ⟨gb158, 0, none⟩ = some (.int .u64 a0_0) ∧ w'.cell? ⟨gb158, 1, none⟩ = some (.int .u64 a0_1) ∧ w'.cell? ⟨gb158, 2, none⟩ = some (.int .u64 a0_2) ∧ w'.cell? ⟨gb158, 3, none⟩ = some (.int .u64 a0_3) ∧ w'.cell? ⟨gb159, 0, none⟩ = some (.int .u64 a1_0) ∧ w'.cell? ⟨gb159, 1, none⟩ = some (.int .u64 a1_1) ∧ w'.cell? ⟨gb159, 2, none⟩ = some (.int .u64 a1_2) ∧ w'.cell? ⟨gb159, 3, none⟩ = some (.int .u64 a1_3)) (ds := []) #[false, false, false, false, false, false, false, false, false] (by kernel_rfl) rfl rfl ⟨(blk_cell BK158.out 0).trans rfl, (blk_cell BK158.out 1).trans rfl, (blk_cell BK158.out 2).trans rfl, (blk_cell BK158.out 3).trans rfl, (blk_cell BK159.out 0).trans rfl, (blk_cell BK159.out 1).trans rfl, (blk_cell BK159.out 2).trans rfl, (blk_cell BK159.out 3).trans rfl⟩ (fun hHeld => ?_); refine with_tabW spec_l1PairText.tab1 spec_l1PairText.bits1 (fun HT_ HW_ => ?_)
      generalize w8.drew = w9 at BK158 BK159 HB hHeld ⊢
      refine takeP_ 2 (some 7) #[false, false, true, false, false, false, false, false, false] HT_ HW_ hHeld ?_
      refine takeP_ 5 (some 10) #[false, false, true, false, false, true, false, false, false] HT_ HW_ hHeld ?_
      refine join_ (σ := Value) 2 #[true, true, true, true, true, true, true, false, false] (fun s_ => [(5, s_), (6, .string (strOfNums y160)), (8, .string t163), (11, .string t164), (9, .string ((strOfNums y160) ++ t163))]) (fun s_ w' => (w'.cell? ⟨gb158, 0, none⟩ = some (.int .u64 a0_0) ∧ w'.cell? ⟨gb158, 1, none⟩ = some (.int .u64 a0_1) ∧ w'.cell? ⟨gb158, 2, none⟩ = some (.int .u64 a0_2) ∧ w'.cell? ⟨gb158, 3, none⟩ = some (.int .u64 a0_3) ∧ w'.cell? ⟨gb159, 0, none⟩ = some (.int .u64 a1_0) ∧ w'.cell? ⟨gb159, 1, none⟩ = some (.int .u64 a1_1) ∧ w'.cell? ⟨gb159, 2, none⟩ = some (.int .u64 a1_2) ∧ w'.cell? ⟨gb159, 3, none⟩ = some (.int .u64 a1_3)) ∧ (Kd.R (Kd.int .u8) 5 w' w.heap.size (fun _ => True) s_ y160) ∧ (w'.heap[gb158]? = some (.cells #[.int .u64 a0_0, .int .u64 a0_1, .int .u64 a0_2, .int .u64 a0_3] 29 (0, 0))) ∧ (w'.heap[gb159]? = some (.cells #[.int .u64 a1_0, .int .u64 a1_1, .int .u64 a1_2, .int .u64 a1_3] 29 (0, 0))) ∧ (Below w.heap.size w w')) ?_ ?_
      rotate_left
      · intro hJ0_1_3_6
        refine join_ (σ := Value) 3 #[true, true, true, true, true, true, false, false, false] (fun s_ => [(5, s_), (6, .string (strOfNums y160)), (8, .string t163), (9, .string ((strOfNums y160) ++ t163))]) (fun s_ w' => (w'.cell? ⟨gb158, 0, none⟩ = some (.int .u64 a0_0) ∧ w'.cell? ⟨gb158, 1, none⟩ = some (.int .u64 a0_1) ∧ w'.cell? ⟨gb158, 2, none⟩ = some (.int .u64 a0_2) ∧ w'.cell? ⟨gb158, 3, none⟩ = some (.int .u64 a0_3) ∧ w'.cell? ⟨gb159, 0, none⟩ = some (.int .u64 a1_0) ∧ w'.cell? ⟨gb159, 1, none⟩ = some (.int .u64 a1_1) ∧ w'.cell? ⟨gb159, 2, none⟩ = some (.int .u64 a1_2) ∧ w'.cell? ⟨gb159, 3, none⟩ = some (.int .u64 a1_3)) ∧ (Kd.R (Kd.int .u8) 5 w' w.heap.size (fun _ => True) s_ y160) ∧ (w'.heap[gb158]? = some (.cells #[.int .u64 a0_0, .int .u64 a0_1, .int .u64 a0_2, .int .u64 a0_3] 29 (0, 0))) ∧ (w'.heap[gb159]? = some (.cells #[.int .u64 a1_0, .int .u64 a1_1, .int .u64 a1_2, .int .u64 a1_3] 29 (0, 0))) ∧ (Below w.heap.size w w')) ?_ ?_
        rotate_left
        · intro hJ0_1_3
          refine join_ (σ := Value) 4 #[true, false, true, true, false, true, true, false, false] (fun s_ => [(5, s_), (8, .string t163), (11, .string t164)]) (fun s_ w' => (w'.cell? ⟨gb158, 0, none⟩ = some (.int .u64 a0_0) ∧ w'.cell? ⟨gb158, 1, none⟩ = some (.int .u64 a0_1) ∧ w'.cell? ⟨gb158, 2, none⟩ = some (.int .u64 a0_2) ∧ w'.cell? ⟨gb158, 3, none⟩ = some (.int .u64 a0_3) ∧ w'.cell? ⟨gb159, 0, none⟩ = some (.int .u64 a1_0) ∧ w'.cell? ⟨gb159, 1, none⟩ = some (.int .u64 a1_1) ∧ w'.cell? ⟨gb159, 2, none⟩ = some (.int .u64 a1_2) ∧ w'.cell? ⟨gb159, 3, none⟩ = some (.int .u64 a1_3)) ∧ (Kd.R (Kd.int .u8) 5 w' w.heap.size (fun _ => True) s_ y160) ∧ (w'.heap[gb158]? = some (.cells #[.int .u64 a0_0, .int .u64 a0_1, .int .u64 a0_2, .int .u64 a0_3] 29 (0, 0))) ∧ (w'.heap[gb159]? = some (.cells #[.int .u64 a1_0, .int .u64 a1_1, .int .u64 a1_2, .int .u64 a1_3] 29 (0, 0))) ∧ (Below w.heap.size w w')) ?_ ?_
          rotate_left
          · intro hJ0_3_6
            refine join_ (σ := Value) 5 #[true, true, true, false, false, true, false, false, false] (fun s_ => [(5, s_), (6, .string (strOfNums y160))]) (fun s_ w' => (w'.cell? ⟨gb158, 0, none⟩ = some (.int .u64 a0_0) ∧ w'.cell? ⟨gb158, 1, none⟩ = some (.int .u64 a0_1) ∧ w'.cell? ⟨gb158, 2, none⟩ = some (.int .u64 a0_2) ∧ w'.cell? ⟨gb158, 3, none⟩ = some (.int .u64 a0_3) ∧ w'.cell? ⟨gb159, 0, none⟩ = some (.int .u64 a1_0) ∧ w'.cell? ⟨gb159, 1, none⟩ = some (.int .u64 a1_1) ∧ w'.cell? ⟨gb159, 2, none⟩ = some (.int .u64 a1_2) ∧ w'.cell? ⟨gb159, 3, none⟩ = some (.int .u64 a1_3)) ∧ (Kd.R (Kd.int .u8) 5 w' w.heap.size (fun _ => True) s_ y160) ∧ (w'.heap[gb158]? = some (.cells #[.int .u64 a0_0, .int .u64 a0_1, .int .u64 a0_2, .int .u64 a0_3] 29 (0, 0))) ∧ (w'.heap[gb159]? = some (.cells #[.int .u64 a1_0, .int .u64 a1_1, .int .u64 a1_2, .int .u64 a1_3] 29 (0, 0))) ∧ (Below w.heap.size w w')) ?_ ?_
            rotate_left
            · intro hJ0_1
              refine join_ (σ := Value) 5 #[true, false, true, true, false, true, false, false, false] (fun s_ => [(5, s_), (8, .string t163)]) (fun s_ w' => (w'.cell? ⟨gb158, 0, none⟩ = some (.int .u64 a0_0) ∧ w'.cell? ⟨gb158, 1, none⟩ = some (.int .u64 a0_1) ∧ w'.cell? ⟨gb158, 2, none⟩ = some (.int .u64 a0_2) ∧ w'.cell? ⟨gb158, 3, none⟩ = some (.int .u64 a0_3) ∧ w'.cell? ⟨gb159, 0, none⟩ = some (.int .u64 a1_0) ∧ w'.cell? ⟨gb159, 1, none⟩ = some (.int .u64 a1_1) ∧ w'.cell? ⟨gb159, 2, none⟩ = some (.int .u64 a1_2) ∧ w'.cell? ⟨gb159, 3, none⟩ = some (.int .u64 a1_3)) ∧ (Kd.R (Kd.int .u8) 5 w' w.heap.size (fun _ => True) s_ y160) ∧ (w'.heap[gb158]? = some (.cells #[.int .u64 a0_0, .int .u64 a0_1, .int .u64 a0_2, .int .u64 a0_3] 29 (0, 0))) ∧ (w'.heap[gb159]? = some (.cells #[.int .u64 a1_0, .int .u64 a1_1, .int .u64 a1_2, .int .u64 a1_3] 29 (0, 0))) ∧ (Below w.heap.size w w')) ?_ ?_
              rotate_left
              · intro hJ0_3
                refine join_ (σ := Unit) 5 #[false, false, true, true, false, true, true, false, false] (fun s_ => [(8, .string t163), (11, .string t164)]) (fun s_ w' => (w'.cell? ⟨gb158, 0, none⟩ = some (.int .u64 a0_0) ∧ w'.cell? ⟨gb158, 1, none⟩ = some (.int .u64 a0_1) ∧ w'.cell? ⟨gb158, 2, none⟩ = some (.int .u64 a0_2) ∧ w'.cell? ⟨gb158, 3, none⟩ = some (.int .u64 a0_3) ∧ w'.cell? ⟨gb159, 0, none⟩ = some (.int .u64 a1_0) ∧ w'.cell? ⟨gb159, 1, none⟩ = some (.int .u64 a1_1) ∧ w'.cell? ⟨gb159, 2, none⟩ = some (.int .u64 a1_2) ∧ w'.cell? ⟨gb159, 3, none⟩ = some (.int .u64 a1_3)) ∧ (w'.heap[gb158]? = some (.cells #[.int .u64 a0_0, .int .u64 a0_1, .int .u64 a0_2, .int .u64 a0_3] 29 (0, 0))) ∧ (w'.heap[gb159]? = some (.cells #[.int .u64 a1_0, .int .u64 a1_1, .int .u64 a1_2, .int .u64 a1_3] 29 (0, 0))) ∧ (Below w.heap.size w w')) ?_ ?_
                rotate_left
                · intro hJ3_6
                  refine join_ (σ := Value) 6 #[true, false, true, false, false, true, false, false, false] (fun s_ => [(5, s_)]) (fun s_ w' => (w'.cell? ⟨gb158, 0, none⟩ = some (.int .u64 a0_0) ∧ w'.cell? ⟨gb158, 1, none⟩ = some (.int .u64 a0_1) ∧ w'.cell? ⟨gb158, 2, none⟩ = some (.int .u64 a0_2) ∧ w'.cell? ⟨gb158, 3, none⟩ = some (.int .u64 a0_3) ∧ w'.cell? ⟨gb159, 0, none⟩ = some (.int .u64 a1_0) ∧ w'.cell? ⟨gb159, 1, none⟩ = some (.int .u64 a1_1) ∧ w'.cell? ⟨gb159, 2, none⟩ = some (.int .u64 a1_2) ∧ w'.cell? ⟨gb159, 3, none⟩ = some (.int .u64 a1_3)) ∧ (Kd.R (Kd.int .u8) 5 w' w.heap.size (fun _ => True) s_ y160) ∧ (w'.heap[gb158]? = some (.cells #[.int .u64 a0_0, .int .u64 a0_1, .int .u64 a0_2, .int .u64 a0_3] 29 (0, 0))) ∧ (w'.heap[gb159]? = some (.cells #[.int .u64 a1_0, .int .u64 a1_1, .int .u64 a1_2, .int .u64 a1_3] 29 (0, 0))) ∧ (Below w.heap.size w w')) ?_ ?_
                  rotate_left
                  · intro hJ0
                    refine join_ (σ := Unit) 6 #[false, false, true, true, false, true, false, false, false] (fun s_ => [(8, .string t163)]) (fun s_ w' => (w'.cell? ⟨gb158, 0, none⟩ = some (.int .u64 a0_0) ∧ w'.cell? ⟨gb158, 1, none⟩ = some (.int .u64 a0_1) ∧ w'.cell? ⟨gb158, 2, none⟩ = some (.int .u64 a0_2) ∧ w'.cell? ⟨gb158, 3, none⟩ = some (.int .u64 a0_3) ∧ w'.cell? ⟨gb159, 0, none⟩ = some (.int .u64 a1_0) ∧ w'.cell? ⟨gb159, 1, none⟩ = some (.int .u64 a1_1) ∧ w'.cell? ⟨gb159, 2, none⟩ = some (.int .u64 a1_2) ∧ w'.cell? ⟨gb159, 3, none⟩ = some (.int .u64 a1_3)) ∧ (w'.heap[gb158]? = some (.cells #[.int .u64 a0_0, .int .u64 a0_1, .int .u64 a0_2, .int .u64 a0_3] 29 (0, 0))) ∧ (w'.heap[gb159]? = some (.cells #[.int .u64 a1_0, .int .u64 a1_1, .int .u64 a1_2, .int .u64 a1_3] 29 (0, 0))) ∧ (Below w.heap.size w w')) ?_ ?_
                    rotate_left
                    · intro hJ3
                      refine two_ (i := 0) (j := 3) (Ni := some 5) (Nj := some 8) #[true, false, true, false, false, true, false, false, false] #[false, false, true, true, false, true, false, false, false] rfl rfl rfl rfl (two_of HT_.out (by kernel_rfl)) (by decide) (by decide) (fun K hK => ?_) (fun K hK => ?_)
                      · skip
                        refine Kd.R_lit_step (Kd.int .u8) _ 5 ?hg (N := 5) ?hd (xs := ([1] : List Int)) (inner := [.int .u8 1]) (ok := fun _ => True) (okp := fun _ => True) ?hr ?hp (fun _ hk => hk) trivial (Below.refl _ _) (Nat.le_refl _) (by simp) ?_; (case hd => rfl); (case hg => rfl); (case hr => first | (go_simp; done) | (go_simp; rfl)); (case hp => exact (Reps.one (show Kd.M (Kd.int .u8) _ _ _ 1 [.int .u8 1] from rfl) (Reps.none _ _)))
                        intro v161 w10 ho11 hb hg_ hnew_
                        clear hg_ hnew_
                        (first | rw [← Ny160.out] at ho11 | (simp only [Int.reduceToNat] at ho11; rw [← Ny160.out] at ho11))
                        have HO162 := Aside0.mk (Kd.R_lower ho11 (below_size bel_))
                        replace BK158 := blkBel_ BK158.out hb
                        replace BK159 := blkBel_ BK159.out hb
                        replace HB := stepB_ hb
                        clear hb ho11
                        refine hK.out _ _ ⟨(blk_cell BK158.out 0).trans rfl, (blk_cell BK158.out 1).trans rfl, (blk_cell BK158.out 2).trans rfl, (blk_cell BK158.out 3).trans rfl, (blk_cell BK159.out 0).trans rfl, (blk_cell BK159.out 1).trans rfl, (blk_cell BK159.out 2).trans rfl, (blk_cell BK159.out 3).trans rfl⟩ (fun hHeld => ?_)
                        clear hK K
                        refine norm_ (a' := ?_) ?_ ?_
                        rotate_left
                        · show Act.put _ (some 5) _ = _
                          simp only [Act.put, List.setIfInBounds_toArray, List.set_cons_zero, List.set_cons_succ, i64_w, i32_w]
                          rfl
                        exact norm_ (by first | (simp only [putAll, Act.put, List.setIfInBounds_toArray, List.set_cons_zero, List.set_cons_succ]; done) | (simp only [putAll, Act.put, List.setIfInBounds_toArray, List.set_cons_zero, List.set_cons_succ]; rfl)) (hJ0 (v161) _ ⟨hHeld, (kdU_ HO162.out), (blkU_ BK158.out), (blkU_ BK159.out), bel_⟩)
                      · skip
                        refine goN_ Try.func122 #[.agg #[.int .u64 a0_0, .int .u64 a0_1, .int .u64 a0_2, .int .u64 a0_3]] ?_
                        with_reducible refine (spec_HashBytes.calls k a0_0 a0_1 a0_2 a0_3 t163 _ A3.out).mono ?_
                        rintro e w10 ⟨rfl, hb⟩
                        refine ⟨_, rfl, ?_⟩
                        replace BK158 := blkBel_ BK158.out hb
                        replace BK159 := blkBel_ BK159.out hb
                        replace HB := stepB_ hb
                        (try clear hb); (try clear hk)
                        refine hK.out _ _ ⟨(blk_cell BK158.out 0).trans rfl, (blk_cell BK158.out 1).trans rfl, (blk_cell BK158.out 2).trans rfl, (blk_cell BK158.out 3).trans rfl, (blk_cell BK159.out 0).trans rfl, (blk_cell BK159.out 1).trans rfl, (blk_cell BK159.out 2).trans rfl, (blk_cell BK159.out 3).trans rfl⟩ (fun hHeld => ?_)
                        clear hK K
                        refine norm_ (a' := ?_) ?_ ?_
                        rotate_left
                        · show Act.put _ (some 8) _ = _
                          simp only [Act.put, List.setIfInBounds_toArray, List.set_cons_zero, List.set_cons_succ, i64_w, i32_w]
                          rfl
                        exact norm_ (by first | (simp only [putAll, Act.put, List.setIfInBounds_toArray, List.set_cons_zero, List.set_cons_succ]; done) | (simp only [putAll, Act.put, List.setIfInBounds_toArray, List.set_cons_zero, List.set_cons_succ]; rfl)) (hJ3 () _ ⟨hHeld, (blkU_ BK158.out), (blkU_ BK159.out), bel_⟩)
                    · skip
                      rintro _ w11 ⟨hS_, h0_, h1_, h2_⟩
                      have n0_ : Aside0 (w11.heap[gb158]? = some (.cells #[.int .u64 a0_0, .int .u64 a0_1, .int .u64 a0_2, .int .u64 a0_3] 29 (0, 0))) := ⟨h0_⟩
                      have n1_ : Aside0 (w11.heap[gb159]? = some (.cells #[.int .u64 a1_0, .int .u64 a1_1, .int .u64 a1_2, .int .u64 a1_3] 29 (0, 0))) := ⟨h1_⟩
                      have n2_ : Aside0 (Below w.heap.size w w11) := ⟨h2_⟩
                      clear BK158
                      clear BK159
                      clear HB
                      clear h0_ h1_ h2_
                      have BK158 := n0_
                      have BK159 := n1_
                      have HB := n2_
                      clear n0_ n1_ n2_
                      have hHeld : w11.cell? ⟨gb158, 0, none⟩ = some (.int .u64 a0_0) ∧ w11.cell? ⟨gb158, 1, none⟩ = some (.int .u64 a0_1) ∧ w11.cell? ⟨gb158, 2, none⟩ = some (.int .u64 a0_2) ∧ w11.cell? ⟨gb158, 3, none⟩ = some (.int .u64 a0_3) ∧ w11.cell? ⟨gb159, 0, none⟩ = some (.int .u64 a1_0) ∧ w11.cell? ⟨gb159, 1, none⟩ = some (.int .u64 a1_1) ∧ w11.cell? ⟨gb159, 2, none⟩ = some (.int .u64 a1_2) ∧ w11.cell? ⟨gb159, 3, none⟩ = some (.int .u64 a1_3) := hS_
                      refine norm_ (a' := ?_) ?_ ?_
                      rotate_left
                      · simp only [putAll, Act.put, List.setIfInBounds_toArray, List.set_cons_zero, List.set_cons_succ]
                        rfl
                      refine two_ (i := 0) (j := 6) (Ni := some 5) (Nj := some 11) #[true, false, true, true, false, true, false, false, false] #[false, false, true, true, false, true, true, false, false] rfl rfl rfl rfl (two_of HT_.out (by kernel_rfl)) (by decide) (by decide) (fun K hK => ?_) (fun K hK => ?_)
                      · skip
                        refine Kd.R_lit_step (Kd.int .u8) _ 5 ?hg (N := 5) ?hd (xs := ([1] : List Int)) (inner := [.int .u8 1]) (ok := fun _ => True) (okp := fun _ => True) ?hr ?hp (fun _ hk => hk) trivial (Below.refl _ _) (Nat.le_refl _) (by simp) ?_; (case hd => rfl); (case hg => rfl); (case hr => first | (go_simp; done) | (go_simp; rfl)); (case hp => exact (Reps.one (show Kd.M (Kd.int .u8) _ _ _ 1 [.int .u8 1] from rfl) (Reps.none _ _)))
                        intro v161 w12 ho13 hb hg_ hnew_
                        clear hg_ hnew_
                        (first | rw [← Ny160.out] at ho13 | (simp only [Int.reduceToNat] at ho13; rw [← Ny160.out] at ho13))
                        have HO162 := Aside0.mk (Kd.R_lower ho13 (below_size bel_))
                        replace BK158 := blkBel_ BK158.out hb
                        replace BK159 := blkBel_ BK159.out hb
                        replace HB := stepB_ hb
                        clear hb ho13
                        refine hK.out _ _ ⟨(blk_cell BK158.out 0).trans rfl, (blk_cell BK158.out 1).trans rfl, (blk_cell BK158.out 2).trans rfl, (blk_cell BK158.out 3).trans rfl, (blk_cell BK159.out 0).trans rfl, (blk_cell BK159.out 1).trans rfl, (blk_cell BK159.out 2).trans rfl, (blk_cell BK159.out 3).trans rfl⟩ (fun hHeld => ?_)
                        clear hK K
                        refine norm_ (a' := ?_) ?_ ?_
                        rotate_left
                        · show Act.put _ (some 5) _ = _
                          simp only [Act.put, List.setIfInBounds_toArray, List.set_cons_zero, List.set_cons_succ, i64_w, i32_w]
                          rfl
                        exact norm_ (by first | (simp only [putAll, Act.put, List.setIfInBounds_toArray, List.set_cons_zero, List.set_cons_succ]; done) | (simp only [putAll, Act.put, List.setIfInBounds_toArray, List.set_cons_zero, List.set_cons_succ]; rfl)) (hJ0_3 (v161) _ ⟨hHeld, (kdU_ HO162.out), (blkU_ BK158.out), (blkU_ BK159.out), bel_⟩)
                      · skip
                        refine goN_ Try.func122 #[.agg #[.int .u64 a1_0, .int .u64 a1_1, .int .u64 a1_2, .int .u64 a1_3]] ?_
                        with_reducible refine (spec_HashBytes.calls k a1_0 a1_1 a1_2 a1_3 t164 _ A5.out).mono ?_
                        rintro e w12 ⟨rfl, hb⟩
                        refine ⟨_, rfl, ?_⟩
                        replace BK158 := blkBel_ BK158.out hb
                        replace BK159 := blkBel_ BK159.out hb
                        replace HB := stepB_ hb
                        (try clear hb); (try clear hk)
                        refine hK.out _ _ ⟨(blk_cell BK158.out 0).trans rfl, (blk_cell BK158.out 1).trans rfl, (blk_cell BK158.out 2).trans rfl, (blk_cell BK158.out 3).trans rfl, (blk_cell BK159.out 0).trans rfl, (blk_cell BK159.out 1).trans rfl, (blk_cell BK159.out 2).trans rfl, (blk_cell BK159.out 3).trans rfl⟩ (fun hHeld => ?_)
                        clear hK K
                        refine norm_ (a' := ?_) ?_ ?_
                        rotate_left
                        · show Act.put _ (some 11) _ = _
                          simp only [Act.put, List.setIfInBounds_toArray, List.set_cons_zero, List.set_cons_succ, i64_w, i32_w]
                          rfl
                        exact norm_ (by first | (simp only [putAll, Act.put, List.setIfInBounds_toArray, List.set_cons_zero, List.set_cons_succ]; done) | (simp only [putAll, Act.put, List.setIfInBounds_toArray, List.set_cons_zero, List.set_cons_succ]; rfl)) (hJ3_6 () _ ⟨hHeld, (blkU_ BK158.out), (blkU_ BK159.out), bel_⟩)
                  · skip
                    rintro v161 w12 ⟨hS_, h0_, h1_, h2_, h3_⟩
                    have n0_ : Aside0 (Kd.R (Kd.int .u8) 5 w12 w.heap.size (fun _ => True) v161 y160) := ⟨h0_⟩
                    have n1_ : Aside0 (w12.heap[gb158]? = some (.cells #[.int .u64 a0_0, .int .u64 a0_1, .int .u64 a0_2, .int .u64 a0_3] 29 (0, 0))) := ⟨h1_⟩
                    have n2_ : Aside0 (w12.heap[gb159]? = some (.cells #[.int .u64 a1_0, .int .u64 a1_1, .int .u64 a1_2, .int .u64 a1_3] 29 (0, 0))) := ⟨h2_⟩
                    have n3_ : Aside0 (Below w.heap.size w w12) := ⟨h3_⟩
                    clear BK158
                    clear BK159
                    clear HB
                    clear h0_ h1_ h2_ h3_
                    have HO162 := n0_
                    have BK158 := n1_
                    have BK159 := n2_
                    have HB := n3_
                    clear n0_ n1_ n2_ n3_
                    have hHeld : w12.cell? ⟨gb158, 0, none⟩ = some (.int .u64 a0_0) ∧ w12.cell? ⟨gb158, 1, none⟩ = some (.int .u64 a0_1) ∧ w12.cell? ⟨gb158, 2, none⟩ = some (.int .u64 a0_2) ∧ w12.cell? ⟨gb158, 3, none⟩ = some (.int .u64 a0_3) ∧ w12.cell? ⟨gb159, 0, none⟩ = some (.int .u64 a1_0) ∧ w12.cell? ⟨gb159, 1, none⟩ = some (.int .u64 a1_1) ∧ w12.cell? ⟨gb159, 2, none⟩ = some (.int .u64 a1_2) ∧ w12.cell? ⟨gb159, 3, none⟩ = some (.int .u64 a1_3) := hS_
                    refine norm_ (a' := ?_) ?_ ?_
                    rotate_left
                    · simp only [putAll, Act.put, List.setIfInBounds_toArray, List.set_cons_zero, List.set_cons_succ]
                      rfl
                    refine two_ (i := 1) (j := 3) (Ni := some 6) (Nj := some 8) #[true, true, true, false, false, true, false, false, false] #[true, false, true, true, false, true, false, false, false] rfl rfl rfl rfl (two_of HT_.out (by kernel_rfl)) (by decide) (by decide) (fun K hK => ?_) (fun K hK => ?_)
                    · skip
                      have hcv13 := own_string (P := Try.prog) Try.underlying60 Try.underlying5 Try.underlying9 (Kd.own_of_R HO162.out)
                      refine value_ (w1 := ?_) (v := ?_) (by rfl) rfl ?_ ?_
                      rotate_left 2
                      · go_simp
                        constructor
                        · rfl
                        · rfl
                      clear hcv13
                      refine hK.out _ _ ⟨(blk_cell BK158.out 0).trans rfl, (blk_cell BK158.out 1).trans rfl, (blk_cell BK158.out 2).trans rfl, (blk_cell BK158.out 3).trans rfl, (blk_cell BK159.out 0).trans rfl, (blk_cell BK159.out 1).trans rfl, (blk_cell BK159.out 2).trans rfl, (blk_cell BK159.out 3).trans rfl⟩ (fun hHeld => ?_)
                      clear hK K
                      refine norm_ (a' := ?_) ?_ ?_
                      rotate_left
                      · show Act.put _ (some 6) _ = _
                        simp only [Act.put, List.setIfInBounds_toArray, List.set_cons_zero, List.set_cons_succ, i64_w, i32_w]
                        rfl
                      exact norm_ (by first | (simp only [putAll, Act.put, List.setIfInBounds_toArray, List.set_cons_zero, List.set_cons_succ]; done) | (simp only [putAll, Act.put, List.setIfInBounds_toArray, List.set_cons_zero, List.set_cons_succ]; rfl)) (hJ0_1 (v161) _ ⟨hHeld, (kdU_ HO162.out), (blkU_ BK158.out), (blkU_ BK159.out), bel_⟩)
                    · skip
                      refine goN_ Try.func122 #[.agg #[.int .u64 a0_0, .int .u64 a0_1, .int .u64 a0_2, .int .u64 a0_3]] ?_
                      with_reducible refine (spec_HashBytes.calls k a0_0 a0_1 a0_2 a0_3 t163 _ A3.out).mono ?_
                      rintro e w13 ⟨rfl, hb⟩
                      refine ⟨_, rfl, ?_⟩
                      replace HO162 := Aside0.mk (Kd.R_below (kdU_ HO162.out) hb)
                      replace BK158 := blkBel_ BK158.out hb
                      replace BK159 := blkBel_ BK159.out hb
                      replace HB := stepB_ hb
                      (try clear hb); (try clear hk)
                      refine hK.out _ _ ⟨(blk_cell BK158.out 0).trans rfl, (blk_cell BK158.out 1).trans rfl, (blk_cell BK158.out 2).trans rfl, (blk_cell BK158.out 3).trans rfl, (blk_cell BK159.out 0).trans rfl, (blk_cell BK159.out 1).trans rfl, (blk_cell BK159.out 2).trans rfl, (blk_cell BK159.out 3).trans rfl⟩ (fun hHeld => ?_)
                      clear hK K
                      refine norm_ (a' := ?_) ?_ ?_
                      rotate_left
                      · show Act.put _ (some 8) _ = _
                        simp only [Act.put, List.setIfInBounds_toArray, List.set_cons_zero, List.set_cons_succ, i64_w, i32_w]
                        rfl
                      exact norm_ (by first | (simp only [putAll, Act.put, List.setIfInBounds_toArray, List.set_cons_zero, List.set_cons_succ]; done) | (simp only [putAll, Act.put, List.setIfInBounds_toArray, List.set_cons_zero, List.set_cons_succ]; rfl)) (hJ0_3 (v161) _ ⟨hHeld, (kdU_ HO162.out), (blkU_ BK158.out), (blkU_ BK159.out), bel_⟩)
                · skip
                  rintro _ w12 ⟨hS_, h0_, h1_, h2_⟩
                  have n0_ : Aside0 (w12.heap[gb158]? = some (.cells #[.int .u64 a0_0, .int .u64 a0_1, .int .u64 a0_2, .int .u64 a0_3] 29 (0, 0))) := ⟨h0_⟩
                  have n1_ : Aside0 (w12.heap[gb159]? = some (.cells #[.int .u64 a1_0, .int .u64 a1_1, .int .u64 a1_2, .int .u64 a1_3] 29 (0, 0))) := ⟨h1_⟩
                  have n2_ : Aside0 (Below w.heap.size w w12) := ⟨h2_⟩
                  clear BK158
                  clear BK159
                  clear HB
                  clear h0_ h1_ h2_
                  have BK158 := n0_
                  have BK159 := n1_
                  have HB := n2_
                  clear n0_ n1_ n2_
                  have hHeld : w12.cell? ⟨gb158, 0, none⟩ = some (.int .u64 a0_0) ∧ w12.cell? ⟨gb158, 1, none⟩ = some (.int .u64 a0_1) ∧ w12.cell? ⟨gb158, 2, none⟩ = some (.int .u64 a0_2) ∧ w12.cell? ⟨gb158, 3, none⟩ = some (.int .u64 a0_3) ∧ w12.cell? ⟨gb159, 0, none⟩ = some (.int .u64 a1_0) ∧ w12.cell? ⟨gb159, 1, none⟩ = some (.int .u64 a1_1) ∧ w12.cell? ⟨gb159, 2, none⟩ = some (.int .u64 a1_2) ∧ w12.cell? ⟨gb159, 3, none⟩ = some (.int .u64 a1_3) := hS_
                  refine norm_ (a' := ?_) ?_ ?_
                  rotate_left
                  · simp only [putAll, Act.put, List.setIfInBounds_toArray, List.set_cons_zero, List.set_cons_succ]
                    rfl
                  refine oneP_ 0 (some 5) #[true, false, true, true, false, true, true, false, false] HT_ (fun K hK => ?_)
                  refine Kd.R_lit_step (Kd.int .u8) _ 5 ?hg (N := 5) ?hd (xs := ([1] : List Int)) (inner := [.int .u8 1]) (ok := fun _ => True) (okp := fun _ => True) ?hr ?hp (fun _ hk => hk) trivial (Below.refl _ _) (Nat.le_refl _) (by simp) ?_; (case hd => rfl); (case hg => rfl); (case hr => first | (go_simp; done) | (go_simp; rfl)); (case hp => exact (Reps.one (show Kd.M (Kd.int .u8) _ _ _ 1 [.int .u8 1] from rfl) (Reps.none _ _)))
                  intro v161 w13 ho14 hb hg_ hnew_
                  clear hg_ hnew_
                  (first | rw [← Ny160.out] at ho14 | (simp only [Int.reduceToNat] at ho14; rw [← Ny160.out] at ho14))
                  have HO162 := Aside0.mk (Kd.R_lower ho14 (below_size bel_))
                  replace BK158 := blkBel_ BK158.out hb
                  replace BK159 := blkBel_ BK159.out hb
                  replace HB := stepB_ hb
                  clear hb ho14
                  refine hK.out _ _ ⟨(blk_cell BK158.out 0).trans rfl, (blk_cell BK158.out 1).trans rfl, (blk_cell BK158.out 2).trans rfl, (blk_cell BK158.out 3).trans rfl, (blk_cell BK159.out 0).trans rfl, (blk_cell BK159.out 1).trans rfl, (blk_cell BK159.out 2).trans rfl, (blk_cell BK159.out 3).trans rfl⟩ (fun hHeld => ?_)
                  clear hK K
                  refine norm_ (a' := ?_) ?_ ?_
                  rotate_left
                  · show Act.put _ (some 5) _ = _
                    simp only [Act.put, List.setIfInBounds_toArray, List.set_cons_zero, List.set_cons_succ, i64_w, i32_w]
                    rfl
                  exact norm_ (by first | (simp only [putAll, Act.put, List.setIfInBounds_toArray, List.set_cons_zero, List.set_cons_succ]; done) | (simp only [putAll, Act.put, List.setIfInBounds_toArray, List.set_cons_zero, List.set_cons_succ]; rfl)) (hJ0_3_6 (v161) _ ⟨hHeld, (kdU_ HO162.out), (blkU_ BK158.out), (blkU_ BK159.out), bel_⟩)
              · skip
                rintro v161 w13 ⟨hS_, h0_, h1_, h2_, h3_⟩
                have n0_ : Aside0 (Kd.R (Kd.int .u8) 5 w13 w.heap.size (fun _ => True) v161 y160) := ⟨h0_⟩
                have n1_ : Aside0 (w13.heap[gb158]? = some (.cells #[.int .u64 a0_0, .int .u64 a0_1, .int .u64 a0_2, .int .u64 a0_3] 29 (0, 0))) := ⟨h1_⟩
                have n2_ : Aside0 (w13.heap[gb159]? = some (.cells #[.int .u64 a1_0, .int .u64 a1_1, .int .u64 a1_2, .int .u64 a1_3] 29 (0, 0))) := ⟨h2_⟩
                have n3_ : Aside0 (Below w.heap.size w w13) := ⟨h3_⟩
                clear BK158
                clear BK159
                clear HB
                clear h0_ h1_ h2_ h3_
                have HO162 := n0_
                have BK158 := n1_
                have BK159 := n2_
                have HB := n3_
                clear n0_ n1_ n2_ n3_
                have hHeld : w13.cell? ⟨gb158, 0, none⟩ = some (.int .u64 a0_0) ∧ w13.cell? ⟨gb158, 1, none⟩ = some (.int .u64 a0_1) ∧ w13.cell? ⟨gb158, 2, none⟩ = some (.int .u64 a0_2) ∧ w13.cell? ⟨gb158, 3, none⟩ = some (.int .u64 a0_3) ∧ w13.cell? ⟨gb159, 0, none⟩ = some (.int .u64 a1_0) ∧ w13.cell? ⟨gb159, 1, none⟩ = some (.int .u64 a1_1) ∧ w13.cell? ⟨gb159, 2, none⟩ = some (.int .u64 a1_2) ∧ w13.cell? ⟨gb159, 3, none⟩ = some (.int .u64 a1_3) := hS_
                refine norm_ (a' := ?_) ?_ ?_
                rotate_left
                · simp only [putAll, Act.put, List.setIfInBounds_toArray, List.set_cons_zero, List.set_cons_succ]
                  rfl
                refine two_ (i := 1) (j := 6) (Ni := some 6) (Nj := some 11) #[true, true, true, true, false, true, false, false, false] #[true, false, true, true, false, true, true, false, false] rfl rfl rfl rfl (two_of HT_.out (by kernel_rfl)) (by decide) (by decide) (fun K hK => ?_) (fun K hK => ?_)
                · skip
                  have hcv14 := own_string (P := Try.prog) Try.underlying60 Try.underlying5 Try.underlying9 (Kd.own_of_R HO162.out)
                  refine value_ (w1 := ?_) (v := ?_) (by rfl) rfl ?_ ?_
                  rotate_left 2
                  · go_simp
                    constructor
                    · rfl
                    · rfl
                  clear hcv14
                  refine hK.out _ _ ⟨(blk_cell BK158.out 0).trans rfl, (blk_cell BK158.out 1).trans rfl, (blk_cell BK158.out 2).trans rfl, (blk_cell BK158.out 3).trans rfl, (blk_cell BK159.out 0).trans rfl, (blk_cell BK159.out 1).trans rfl, (blk_cell BK159.out 2).trans rfl, (blk_cell BK159.out 3).trans rfl⟩ (fun hHeld => ?_)
                  clear hK K
                  refine norm_ (a' := ?_) ?_ ?_
                  rotate_left
                  · show Act.put _ (some 6) _ = _
                    simp only [Act.put, List.setIfInBounds_toArray, List.set_cons_zero, List.set_cons_succ, i64_w, i32_w]
                    rfl
                  refine pure_ (i := 4) (N := some 9) (v := ?_) (a' := ?_) #[true, true, true, true, true, true, false, false, false] rfl rfl (any_of HT_.out (by kernel_rfl)) (fun _ _ _ h => h) (Or.inl ⟨by rfl, ?_⟩) ?_ ?_
                  rotate_left
                  · intro w'
                    go_simp
                    first | with_reducible rfl | (rw [if_neg (by intro h_; (try simp only [ByteArray.size_append, ByteArray.size_extract, eq_iff_iff, iff_true] at *); omega)]; first | done | rfl)
                  rotate_left
                  · simp only [Act.put, List.setIfInBounds_toArray, List.set_cons_zero, List.set_cons_succ, i64_w, i32_w]
                    rfl
                  exact norm_ (by first | (simp only [putAll, Act.put, List.setIfInBounds_toArray, List.set_cons_zero, List.set_cons_succ]; done) | (simp only [putAll, Act.put, List.setIfInBounds_toArray, List.set_cons_zero, List.set_cons_succ]; rfl)) (hJ0_1_3 (v161) _ ⟨hHeld, (kdU_ HO162.out), (blkU_ BK158.out), (blkU_ BK159.out), bel_⟩)
                · skip
                  refine goN_ Try.func122 #[.agg #[.int .u64 a1_0, .int .u64 a1_1, .int .u64 a1_2, .int .u64 a1_3]] ?_
                  with_reducible refine (spec_HashBytes.calls k a1_0 a1_1 a1_2 a1_3 t164 _ A5.out).mono ?_
                  rintro e w14 ⟨rfl, hb⟩
                  refine ⟨_, rfl, ?_⟩
                  replace HO162 := Aside0.mk (Kd.R_below (kdU_ HO162.out) hb)
                  replace BK158 := blkBel_ BK158.out hb
                  replace BK159 := blkBel_ BK159.out hb
                  replace HB := stepB_ hb
                  (try clear hb); (try clear hk)
                  refine hK.out _ _ ⟨(blk_cell BK158.out 0).trans rfl, (blk_cell BK158.out 1).trans rfl, (blk_cell BK158.out 2).trans rfl, (blk_cell BK158.out 3).trans rfl, (blk_cell BK159.out 0).trans rfl, (blk_cell BK159.out 1).trans rfl, (blk_cell BK159.out 2).trans rfl, (blk_cell BK159.out 3).trans rfl⟩ (fun hHeld => ?_)
                  clear hK K
                  refine norm_ (a' := ?_) ?_ ?_
                  rotate_left
                  · show Act.put _ (some 11) _ = _
                    simp only [Act.put, List.setIfInBounds_toArray, List.set_cons_zero, List.set_cons_succ, i64_w, i32_w]
                    rfl
                  exact norm_ (by first | (simp only [putAll, Act.put, List.setIfInBounds_toArray, List.set_cons_zero, List.set_cons_succ]; done) | (simp only [putAll, Act.put, List.setIfInBounds_toArray, List.set_cons_zero, List.set_cons_succ]; rfl)) (hJ0_3_6 (v161) _ ⟨hHeld, (kdU_ HO162.out), (blkU_ BK158.out), (blkU_ BK159.out), bel_⟩)
            · skip
              rintro v161 w13 ⟨hS_, h0_, h1_, h2_, h3_⟩
              have n0_ : Aside0 (Kd.R (Kd.int .u8) 5 w13 w.heap.size (fun _ => True) v161 y160) := ⟨h0_⟩
              have n1_ : Aside0 (w13.heap[gb158]? = some (.cells #[.int .u64 a0_0, .int .u64 a0_1, .int .u64 a0_2, .int .u64 a0_3] 29 (0, 0))) := ⟨h1_⟩
              have n2_ : Aside0 (w13.heap[gb159]? = some (.cells #[.int .u64 a1_0, .int .u64 a1_1, .int .u64 a1_2, .int .u64 a1_3] 29 (0, 0))) := ⟨h2_⟩
              have n3_ : Aside0 (Below w.heap.size w w13) := ⟨h3_⟩
              clear BK158
              clear BK159
              clear HB
              clear h0_ h1_ h2_ h3_
              have HO162 := n0_
              have BK158 := n1_
              have BK159 := n2_
              have HB := n3_
              clear n0_ n1_ n2_ n3_
              have hHeld : w13.cell? ⟨gb158, 0, none⟩ = some (.int .u64 a0_0) ∧ w13.cell? ⟨gb158, 1, none⟩ = some (.int .u64 a0_1) ∧ w13.cell? ⟨gb158, 2, none⟩ = some (.int .u64 a0_2) ∧ w13.cell? ⟨gb158, 3, none⟩ = some (.int .u64 a0_3) ∧ w13.cell? ⟨gb159, 0, none⟩ = some (.int .u64 a1_0) ∧ w13.cell? ⟨gb159, 1, none⟩ = some (.int .u64 a1_1) ∧ w13.cell? ⟨gb159, 2, none⟩ = some (.int .u64 a1_2) ∧ w13.cell? ⟨gb159, 3, none⟩ = some (.int .u64 a1_3) := hS_
              refine norm_ (a' := ?_) ?_ ?_
              rotate_left
              · simp only [putAll, Act.put, List.setIfInBounds_toArray, List.set_cons_zero, List.set_cons_succ]
                rfl
              refine oneP_ 3 (some 8) #[true, true, true, true, false, true, false, false, false] HT_ (fun K hK => ?_)
              refine goN_ Try.func122 #[.agg #[.int .u64 a0_0, .int .u64 a0_1, .int .u64 a0_2, .int .u64 a0_3]] ?_
              with_reducible refine (spec_HashBytes.calls k a0_0 a0_1 a0_2 a0_3 t163 _ A3.out).mono ?_
              rintro e w14 ⟨rfl, hb⟩
              refine ⟨_, rfl, ?_⟩
              replace HO162 := Aside0.mk (Kd.R_below (kdU_ HO162.out) hb)
              replace BK158 := blkBel_ BK158.out hb
              replace BK159 := blkBel_ BK159.out hb
              replace HB := stepB_ hb
              (try clear hb); (try clear hk)
              refine hK.out _ _ ⟨(blk_cell BK158.out 0).trans rfl, (blk_cell BK158.out 1).trans rfl, (blk_cell BK158.out 2).trans rfl, (blk_cell BK158.out 3).trans rfl, (blk_cell BK159.out 0).trans rfl, (blk_cell BK159.out 1).trans rfl, (blk_cell BK159.out 2).trans rfl, (blk_cell BK159.out 3).trans rfl⟩ (fun hHeld => ?_)
              clear hK K
              refine norm_ (a' := ?_) ?_ ?_
              rotate_left
              · show Act.put _ (some 8) _ = _
                simp only [Act.put, List.setIfInBounds_toArray, List.set_cons_zero, List.set_cons_succ, i64_w, i32_w]
                rfl
              refine pure_ (i := 4) (N := some 9) (v := ?_) (a' := ?_) #[true, true, true, true, true, true, false, false, false] rfl rfl (any_of HT_.out (by kernel_rfl)) (fun _ _ _ h => h) (Or.inl ⟨by rfl, ?_⟩) ?_ ?_
              rotate_left
              · intro w'
                go_simp
                first | with_reducible rfl | (rw [if_neg (by intro h_; (try simp only [ByteArray.size_append, ByteArray.size_extract, eq_iff_iff, iff_true] at *); omega)]; first | done | rfl)
              rotate_left
              · simp only [Act.put, List.setIfInBounds_toArray, List.set_cons_zero, List.set_cons_succ, i64_w, i32_w]
                rfl
              exact norm_ (by first | (simp only [putAll, Act.put, List.setIfInBounds_toArray, List.set_cons_zero, List.set_cons_succ]; done) | (simp only [putAll, Act.put, List.setIfInBounds_toArray, List.set_cons_zero, List.set_cons_succ]; rfl)) (hJ0_1_3 (v161) _ ⟨hHeld, (kdU_ HO162.out), (blkU_ BK158.out), (blkU_ BK159.out), bel_⟩)
          · skip
            rintro v161 w14 ⟨hS_, h0_, h1_, h2_, h3_⟩
            have n0_ : Aside0 (Kd.R (Kd.int .u8) 5 w14 w.heap.size (fun _ => True) v161 y160) := ⟨h0_⟩
            have n1_ : Aside0 (w14.heap[gb158]? = some (.cells #[.int .u64 a0_0, .int .u64 a0_1, .int .u64 a0_2, .int .u64 a0_3] 29 (0, 0))) := ⟨h1_⟩
            have n2_ : Aside0 (w14.heap[gb159]? = some (.cells #[.int .u64 a1_0, .int .u64 a1_1, .int .u64 a1_2, .int .u64 a1_3] 29 (0, 0))) := ⟨h2_⟩
            have n3_ : Aside0 (Below w.heap.size w w14) := ⟨h3_⟩
            clear BK158
            clear BK159
            clear HB
            clear h0_ h1_ h2_ h3_
            have HO162 := n0_
            have BK158 := n1_
            have BK159 := n2_
            have HB := n3_
            clear n0_ n1_ n2_ n3_
            have hHeld : w14.cell? ⟨gb158, 0, none⟩ = some (.int .u64 a0_0) ∧ w14.cell? ⟨gb158, 1, none⟩ = some (.int .u64 a0_1) ∧ w14.cell? ⟨gb158, 2, none⟩ = some (.int .u64 a0_2) ∧ w14.cell? ⟨gb158, 3, none⟩ = some (.int .u64 a0_3) ∧ w14.cell? ⟨gb159, 0, none⟩ = some (.int .u64 a1_0) ∧ w14.cell? ⟨gb159, 1, none⟩ = some (.int .u64 a1_1) ∧ w14.cell? ⟨gb159, 2, none⟩ = some (.int .u64 a1_2) ∧ w14.cell? ⟨gb159, 3, none⟩ = some (.int .u64 a1_3) := hS_
            refine norm_ (a' := ?_) ?_ ?_
            rotate_left
            · simp only [putAll, Act.put, List.setIfInBounds_toArray, List.set_cons_zero, List.set_cons_succ]
              rfl
            refine oneP_ 1 (some 6) #[true, true, true, true, false, true, true, false, false] HT_ (fun K hK => ?_)
            have hcv15 := own_string (P := Try.prog) Try.underlying60 Try.underlying5 Try.underlying9 (Kd.own_of_R HO162.out)
            refine value_ (w1 := ?_) (v := ?_) (by rfl) rfl ?_ ?_
            rotate_left 2
            · go_simp
              constructor
              · rfl
              · rfl
            clear hcv15
            refine hK.out _ _ ⟨(blk_cell BK158.out 0).trans rfl, (blk_cell BK158.out 1).trans rfl, (blk_cell BK158.out 2).trans rfl, (blk_cell BK158.out 3).trans rfl, (blk_cell BK159.out 0).trans rfl, (blk_cell BK159.out 1).trans rfl, (blk_cell BK159.out 2).trans rfl, (blk_cell BK159.out 3).trans rfl⟩ (fun hHeld => ?_)
            clear hK K
            refine norm_ (a' := ?_) ?_ ?_
            rotate_left
            · show Act.put _ (some 6) _ = _
              simp only [Act.put, List.setIfInBounds_toArray, List.set_cons_zero, List.set_cons_succ, i64_w, i32_w]
              rfl
            refine pure_ (i := 4) (N := some 9) (v := ?_) (a' := ?_) #[true, true, true, true, true, true, true, false, false] rfl rfl (any_of HT_.out (by kernel_rfl)) (fun _ _ _ h => h) (Or.inl ⟨by rfl, ?_⟩) ?_ ?_
            rotate_left
            · intro w'
              go_simp
              first | with_reducible rfl | (rw [if_neg (by intro h_; (try simp only [ByteArray.size_append, ByteArray.size_extract, eq_iff_iff, iff_true] at *); omega)]; first | done | rfl)
            rotate_left
            · simp only [Act.put, List.setIfInBounds_toArray, List.set_cons_zero, List.set_cons_succ, i64_w, i32_w]
              rfl
            exact norm_ (by first | (simp only [putAll, Act.put, List.setIfInBounds_toArray, List.set_cons_zero, List.set_cons_succ]; done) | (simp only [putAll, Act.put, List.setIfInBounds_toArray, List.set_cons_zero, List.set_cons_succ]; rfl)) (hJ0_1_3_6 (v161) _ ⟨hHeld, (kdU_ HO162.out), (blkU_ BK158.out), (blkU_ BK159.out), bel_⟩)
        · skip
          rintro v161 w14 ⟨hS_, h0_, h1_, h2_, h3_⟩
          have n0_ : Aside0 (Kd.R (Kd.int .u8) 5 w14 w.heap.size (fun _ => True) v161 y160) := ⟨h0_⟩
          have n1_ : Aside0 (w14.heap[gb158]? = some (.cells #[.int .u64 a0_0, .int .u64 a0_1, .int .u64 a0_2, .int .u64 a0_3] 29 (0, 0))) := ⟨h1_⟩
          have n2_ : Aside0 (w14.heap[gb159]? = some (.cells #[.int .u64 a1_0, .int .u64 a1_1, .int .u64 a1_2, .int .u64 a1_3] 29 (0, 0))) := ⟨h2_⟩
          have n3_ : Aside0 (Below w.heap.size w w14) := ⟨h3_⟩
          clear BK158
          clear BK159
          clear HB
          clear h0_ h1_ h2_ h3_
          have HO162 := n0_
          have BK158 := n1_
          have BK159 := n2_
          have HB := n3_
          clear n0_ n1_ n2_ n3_
          have hHeld : w14.cell? ⟨gb158, 0, none⟩ = some (.int .u64 a0_0) ∧ w14.cell? ⟨gb158, 1, none⟩ = some (.int .u64 a0_1) ∧ w14.cell? ⟨gb158, 2, none⟩ = some (.int .u64 a0_2) ∧ w14.cell? ⟨gb158, 3, none⟩ = some (.int .u64 a0_3) ∧ w14.cell? ⟨gb159, 0, none⟩ = some (.int .u64 a1_0) ∧ w14.cell? ⟨gb159, 1, none⟩ = some (.int .u64 a1_1) ∧ w14.cell? ⟨gb159, 2, none⟩ = some (.int .u64 a1_2) ∧ w14.cell? ⟨gb159, 3, none⟩ = some (.int .u64 a1_3) := hS_
          refine norm_ (a' := ?_) ?_ ?_
          rotate_left
          · simp only [putAll, Act.put, List.setIfInBounds_toArray, List.set_cons_zero, List.set_cons_succ]
            rfl
          refine oneP_ 6 (some 11) #[true, true, true, true, true, true, true, false, false] HT_ (fun K hK => ?_)
          refine goN_ Try.func122 #[.agg #[.int .u64 a1_0, .int .u64 a1_1, .int .u64 a1_2, .int .u64 a1_3]] ?_
          with_reducible refine (spec_HashBytes.calls k a1_0 a1_1 a1_2 a1_3 t164 _ A5.out).mono ?_
          rintro e w15 ⟨rfl, hb⟩
          refine ⟨_, rfl, ?_⟩
          replace HO162 := Aside0.mk (Kd.R_below (kdU_ HO162.out) hb)
          replace BK158 := blkBel_ BK158.out hb
          replace BK159 := blkBel_ BK159.out hb
          replace HB := stepB_ hb
          (try clear hb); (try clear hk)
          refine hK.out _ _ ⟨(blk_cell BK158.out 0).trans rfl, (blk_cell BK158.out 1).trans rfl, (blk_cell BK158.out 2).trans rfl, (blk_cell BK158.out 3).trans rfl, (blk_cell BK159.out 0).trans rfl, (blk_cell BK159.out 1).trans rfl, (blk_cell BK159.out 2).trans rfl, (blk_cell BK159.out 3).trans rfl⟩ (fun hHeld => ?_)
          clear hK K
          refine norm_ (a' := ?_) ?_ ?_
          rotate_left
          · show Act.put _ (some 11) _ = _
            simp only [Act.put, List.setIfInBounds_toArray, List.set_cons_zero, List.set_cons_succ, i64_w, i32_w]
            rfl
          exact norm_ (by first | (simp only [putAll, Act.put, List.setIfInBounds_toArray, List.set_cons_zero, List.set_cons_succ]; done) | (simp only [putAll, Act.put, List.setIfInBounds_toArray, List.set_cons_zero, List.set_cons_succ]; rfl)) (hJ0_1_3_6 (v161) _ ⟨hHeld, (kdU_ HO162.out), (blkU_ BK158.out), (blkU_ BK159.out), bel_⟩)
      rintro v161 w15 ⟨hS_, h0_, h1_, h2_, h3_⟩
      have n0_ : Aside0 (Kd.R (Kd.int .u8) 5 w15 w.heap.size (fun _ => True) v161 y160) := ⟨h0_⟩
      have n1_ : Aside0 (w15.heap[gb158]? = some (.cells #[.int .u64 a0_0, .int .u64 a0_1, .int .u64 a0_2, .int .u64 a0_3] 29 (0, 0))) := ⟨h1_⟩
      have n2_ : Aside0 (w15.heap[gb159]? = some (.cells #[.int .u64 a1_0, .int .u64 a1_1, .int .u64 a1_2, .int .u64 a1_3] 29 (0, 0))) := ⟨h2_⟩
      have n3_ : Aside0 (Below w.heap.size w w15) := ⟨h3_⟩
      clear BK158
      clear BK159
      clear HB
      clear h0_ h1_ h2_ h3_
      have HO162 := n0_
      have BK158 := n1_
      have BK159 := n2_
      have HB := n3_
      clear n0_ n1_ n2_ n3_
      have hHeld : w15.cell? ⟨gb158, 0, none⟩ = some (.int .u64 a0_0) ∧ w15.cell? ⟨gb158, 1, none⟩ = some (.int .u64 a0_1) ∧ w15.cell? ⟨gb158, 2, none⟩ = some (.int .u64 a0_2) ∧ w15.cell? ⟨gb158, 3, none⟩ = some (.int .u64 a0_3) ∧ w15.cell? ⟨gb159, 0, none⟩ = some (.int .u64 a1_0) ∧ w15.cell? ⟨gb159, 1, none⟩ = some (.int .u64 a1_1) ∧ w15.cell? ⟨gb159, 2, none⟩ = some (.int .u64 a1_2) ∧ w15.cell? ⟨gb159, 3, none⟩ = some (.int .u64 a1_3) := hS_
      refine norm_ (a' := ?_) ?_ ?_
      rotate_left
      · simp only [putAll, Act.put, List.setIfInBounds_toArray, List.set_cons_zero, List.set_cons_succ]
        rfl
      refine pure_ (i := 7) (N := some 12) (v := ?_) (a' := ?_) #[true, true, true, true, true, true, true, true, false] rfl rfl (any_of HT_.out (by kernel_rfl)) (fun _ _ _ h => h) (Or.inl ⟨by rfl, ?_⟩) ?_ ?_
      rotate_left
      · intro w'
        go_simp
        first | with_reducible rfl | (rw [if_neg (by intro h_; (try simp only [ByteArray.size_append, ByteArray.size_extract, eq_iff_iff, iff_true] at *); omega)]; first | done | rfl)
      rotate_left
      · simp only [Act.put, List.setIfInBounds_toArray, List.set_cons_zero, List.set_cons_succ, i64_w, i32_w]
        rfl
      refine pure_ (i := 8) (N := some 4) (v := ?_) (a' := ?_) #[true, true, true, true, true, true, true, true, true] rfl rfl (any_of HT_.out (by kernel_rfl)) (fun _ _ _ h => h) (Or.inl ⟨by rfl, ?_⟩) ?_ ?_
      rotate_left
      · intro w'
        go_simp
        first | with_reducible rfl | (rw [if_neg (by intro h_; (try simp only [ByteArray.size_append, ByteArray.size_extract, eq_iff_iff, iff_true] at *); omega)]; first | done | rfl)
      rotate_left
      · simp only [Act.put, List.setIfInBounds_toArray, List.set_cons_zero, List.set_cons_succ, i64_w, i32_w]
        rfl
      refine done_ (done_of HT_.out (by kernel_rfl)) ?_
      try go_wp2
      go_ret
      exact ⟨rfl_, bel_⟩
    · rw [if_neg c6] at H
      exact absurd H (by simp)
  · rw [if_neg c4] at H
    exact absurd H (by simp)
end
section
def spec_HashPair.f (k : Nat) (a0_0 : Int) (a0_1 : Int) (a0_2 : Int) (a0_3 : Int) (a1_0 : Int) (a1_1 : Int) (a1_2 : Int) (a1_3 : Int) : Option (Int × Int × Int × Int) := (spec_l1PairText.f k a0_0 a0_1 a0_2 a0_3 a1_0 a1_1 a1_2 a1_3).bind fun t168 => ((spec_HashOf.f k t168).bind fun bt169 => (some (bt169.1, bt169.2.1, bt169.2.2.1, bt169.2.2.2)))
set_option maxHeartbeats 8000000 in
set_option maxRecDepth 100000 in
theorem spec_HashPair.calls (k : Nat) (a0_0 : Int) (a0_1 : Int) (a0_2 : Int) (a0_3 : Int) (a1_0 : Int) (a1_1 : Int) (a1_2 : Int) (a1_3 : Int) (r1 : Int) (r2 : Int) (r3 : Int) (r4 : Int) (w : World) (h : spec_HashPair.f k a0_0 a0_1 a0_2 a0_3 a1_0 a1_1 a1_2 a1_3 = some (r1, r2, r3, r4)) :
    Calls Try.prog 119 #[.agg #[.int .u64 a0_0, .int .u64 a0_1, .int .u64 a0_2, .int .u64 a0_3], .agg #[.int .u64 a1_0, .int .u64 a1_1, .int .u64 a1_2, .int .u64 a1_3]] w fun e w' => e = .returned (.agg #[.int .u64 r1, .int .u64 r2, .int .u64 r3, .int .u64 r4]) ∧ Below w.heap.size w w' := by
  have hu29 := Try.underlying29
  have HB := Aside0.mk (Below.refl w.heap.size w)
  have H : ((spec_l1PairText.f k a0_0 a0_1 a0_2 a0_3 a1_0 a1_1 a1_2 a1_3).bind fun t168 => ((spec_HashOf.f k t168).bind fun bt169 => (some (bt169.1, bt169.2.1, bt169.2.2.1, bt169.2.2.2)))) = some (r1, r2, r3, r4) := h
  clear h
  obtain ⟨t168, A3, H⟩ := bnd_ H
  obtain ⟨⟨t169, t170, t171, t172⟩, A4, H⟩ := bnd_ H
  dsimp only at H
  simp only [Option.some.injEq, Prod.mk.injEq] at H
  obtain ⟨rfl, rfl, rfl, rfl⟩ := H
  go_enter Try.func119, Try.ntmps119
  go_wp2_with (first | ((with_reducible refine gate_dst (N := 2) rfl ?_); refine boxE_ (cs := #[.int .u64 a0_0, .int .u64 a0_1, .int .u64 a0_2, .int .u64 a0_3]) (t := 29) ?_; intro gb165 hg w5 hbox hb; have BK165 := Aside0.mk (hbox); have GW165 := sizeB_ hg; have GE165 := sizeB_ hg; replace HB := stepB_ hb; clear hb hbox hg) | ((with_reducible refine gate_dst (N := 3) rfl ?_); refine boxE_ (cs := #[.int .u64 a1_0, .int .u64 a1_1, .int .u64 a1_2, .int .u64 a1_3]) (t := 29) ?_; intro gb166 hg w6 hbox hb; have BK166 := Aside0.mk (hbox); have GW166 := sizeB_ hg; have GE166 := sizeB_ hg; replace HB := stepB_ hb; have NB165_166 := neL_ BK165.out hg; have NB166_165 := neG_ BK165.out hg; replace BK165 := blkBel_ BK165.out hb; clear hb hbox hg) | ((with_reducible refine gate_dst (N := 4) rfl ?_); refine boxE_ (cs := #[.int .u64 0, .int .u64 0, .int .u64 0, .int .u64 0]) (t := 29) ?_; intro gb167 hg w7 hbox hb; have BK167 := Aside0.mk (hbox); have GW167 := sizeB_ hg; have GE167 := sizeB_ hg; replace HB := stepB_ hb; have NB165_167 := neL_ BK165.out hg; have NB167_165 := neG_ BK165.out hg; replace BK165 := blkBel_ BK165.out hb; have NB166_167 := neL_ BK166.out hg; have NB167_166 := neG_ BK166.out hg; replace BK166 := blkBel_ BK166.out hb; clear hb hbox hg; have hnb8 := NB165_166.out; have hnc8 := NB166_165.out; have hnb9 := NB165_167.out; have hnc9 := NB167_165.out; obtain ⟨hcz10_0, hcz10_1, hcz10_2, hcz10_3, hfz10_0, hfz10_1, hfz10_2, hfz10_3⟩ := cz4_ BK165.out; have hnb11 := NB166_167.out; have hnc11 := NB167_166.out; obtain ⟨hcz12_0, hcz12_1, hcz12_2, hcz12_3, hfz12_0, hfz12_1, hfz12_2, hfz12_3⟩ := cz4_ BK166.out) | ((with_reducible refine gate_callee (f := 90) rfl ?_); refine goL_ (some 7) Try.func90 #[.agg #[.int .u64 a0_0, .int .u64 a0_1, .int .u64 a0_2, .int .u64 a0_3], .agg #[.int .u64 a1_0, .int .u64 a1_1, .int .u64 a1_2, .int .u64 a1_3]] ?_; (with_reducible refine (spec_l1PairText.calls k a0_0 a0_1 a0_2 a0_3 a1_0 a1_1 a1_2 a1_3 t168 _ A3.out).mono ?_); rintro e w13 ⟨rfl, hb⟩; refine ⟨_, rfl, ?_⟩; replace BK165 := blkBel_ BK165.out hb; replace BK166 := blkBel_ BK166.out hb; replace BK167 := blkBel_ BK167.out hb; replace HB := stepB_ hb; (try clear hb)) | ((with_reducible refine gate_callee (f := 72) rfl ?_); refine goL_ (some 8) Try.func72 #[.string t168] ?_; (with_reducible refine (spec_HashOf.calls k t168 t169 t170 t171 t172 _ A4.out).mono ?_); rintro e w14 ⟨rfl, hb⟩; refine ⟨_, rfl, ?_⟩; replace BK165 := blkBel_ BK165.out hb; replace BK166 := blkBel_ BK166.out hb; replace BK167 := blkBel_ BK167.out hb; replace HB := stepB_ hb; (try clear hb); obtain ⟨hcz15_0, hcz15_1, hcz15_2, hcz15_3, hfz15_0, hfz15_1, hfz15_2, hfz15_3⟩ := cz4_ BK167.out))
  refine bodyPost_ret (results_cell_row rfl _ _ gb167 29 #[.int .u64 t169, .int .u64 t170, .int .u64 t171, .int .u64 t172] (0, 0) _ rfl (blkF_ BK167.out) Try.underlying29 rfl (by kernel_rfl)) rfl ?_
  exact ⟨rfl_, bel_⟩
end
end Go.Proofs.Ytflckegggopdnaa.B
