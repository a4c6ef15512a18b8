/- What the Go functions loop.example/belfry/spec.HashBytes do is what the Lean functions .f of their names here say; condition: .f gives an answer. (Written by the session's program pp.py over the kit's print; Lean checks it.) -/
import Derived.Test.YtflcbanemolkfaaDoorZHFK
import Derived.Test.YtflcbanemolkfaaDoorZHFM
import Derived.Test.YtflcbanemolkfaaDoorZHFGSpecHash1
namespace Go.Proofs.YtflcbanemolkfaaDoor.B
open Go.RowKit Go.Proofs.YtflcbanemolkfaaDoorW.PrintWords Go.Proofs.YtflcbanemolkfaaDoorW.PrintLast Go.Proofs.YtflcbanemolkfaaDoorW.PrintMore
attribute [local go_sem] max2_int min2_int max_two min_two max_three min_three max_four min_four
set_option linter.unusedVariables false
set_option linter.unusedSimpArgs false
section
def spec_HashBytes.f (k : Nat) (a0_0 : Int) (a0_1 : Int) (a0_2 : Int) (a0_3 : Int) : Option (ByteArray) := (spec_l1Bytes.f k a0_0).bind fun t248 => ((spec_l1Bytes.f k a0_1).bind fun t249 => (if t248.size + t249.size ≤ 9223372036854775807 then ((spec_l1Bytes.f k a0_2).bind fun t250 => (if (t248 ++ t249).size + t250.size ≤ 9223372036854775807 then ((spec_l1Bytes.f k a0_3).bind fun t251 => (if ((t248 ++ t249) ++ t250).size + t251.size ≤ 9223372036854775807 then (some (((t248 ++ t249) ++ t250) ++ t251)) else (none))) else (none))) else (none)))
def spec_HashBytes.T1 : Bool × List (List Nat × List Nat) := (true, [([], []), ([0], [0]), ([1], [1]), ([], []), ([3], [3]), ([4, 2], [4]), ([2, 5], [2, 5]), ([], []), ([7], [7]), ([8, 5], [8]), ([6, 9], [6, 9]), ([], []), ([11], [11]), ([12, 9], [12]), ([10, 13], [10, 13]), ([14, 13, 0, 1, 2, 3, 4, 5, 6, 7, 8, 9, 10, 11, 12, 13, 14], [14])])
def spec_HashBytes.B1 : List Nat := [0, 1, 3, 0, 8, 31, 63, 0, 128, 447, 1023, 0, 2048, 7103, 16383, 32767]
theorem spec_HashBytes.tab1 : rtab .any (opsOf Tryd.f25 1) = spec_HashBytes.T1 := by kernel_rfl
theorem spec_HashBytes.bits1 : waitsOk spec_HashBytes.T1.2 spec_HashBytes.B1 = true := by kernel_rfl
set_option maxHeartbeats 8000000 in
set_option maxRecDepth 100000 in
theorem spec_HashBytes.calls (k : Nat) (a0_0 : Int) (a0_1 : Int) (a0_2 : Int) (a0_3 : Int) (r : ByteArray) (w : World) (h : spec_HashBytes.f k a0_0 a0_1 a0_2 a0_3 = some r) :
    Calls Tryd.prog 25 #[.agg #[.int .u64 a0_0, .int .u64 a0_1, .int .u64 a0_2, .int .u64 a0_3]] w fun e w' => e = .returned (.string r) ∧ Below w.heap.size w w' := by
  have hu24 := Tryd.underlying24
  have HB := Aside0.mk (Below.refl w.heap.size w)
  have H : ((spec_l1Bytes.f k a0_0).bind fun t248 => ((spec_l1Bytes.f k a0_1).bind fun t249 => (if t248.size + t249.size ≤ 9223372036854775807 then ((spec_l1Bytes.f k a0_2).bind fun t250 => (if (t248 ++ t249).size + t250.size ≤ 9223372036854775807 then ((spec_l1Bytes.f k a0_3).bind fun t251 => (if ((t248 ++ t249) ++ t250).size + t251.size ≤ 9223372036854775807 then (some (((t248 ++ t249) ++ t250) ++ t251)) else (none))) else (none))) else (none)))) = some r := h
  clear h
  obtain ⟨t248, A2, H⟩ := bnd_ H
  obtain ⟨t249, A3, H⟩ := bnd_ H
  by_cases c4 : t248.size + t249.size ≤ 9223372036854775807
  · rw [if_pos c4] at H
    have c4b0 := eq_true c4
    have c4b1 : decide (t248.size + t249.size ≤ 9223372036854775807) = true := decide_eq_true c4
    try have c4b2 : (9223372036854775807 < t248.size + t249.size) = False := eq_false (Nat.not_lt.2 c4)
    obtain ⟨t250, A5, H⟩ := bnd_ H
    by_cases c6 : (t248 ++ t249).size + t250.size ≤ 9223372036854775807
    · rw [if_pos c6] at H
      have c6b0 := eq_true c6
      have c6b1 : decide ((t248 ++ t249).size + t250.size ≤ 9223372036854775807) = true := decide_eq_true c6
      try (have c6b1n := c6b1; simp only [ByteArray.size_append, Int.natCast_add] at c6b1n)
      try have c6b2 : (9223372036854775807 < (t248 ++ t249).size + t250.size) = False := eq_false (Nat.not_lt.2 c6)
      obtain ⟨t251, A7, H⟩ := bnd_ H
      by_cases c8 : ((t248 ++ t249) ++ t250).size + t251.size ≤ 9223372036854775807
      · rw [if_pos c8] at H
        have c8b0 := eq_true c8
        have c8b1 : decide (((t248 ++ t249) ++ t250).size + t251.size ≤ 9223372036854775807) = true := decide_eq_true c8
        try (have c8b1n := c8b1; simp only [ByteArray.size_append, Int.natCast_add] at c8b1n)
        try have c8b2 : (9223372036854775807 < ((t248 ++ t249) ++ t250).size + t251.size) = False := eq_false (Nat.not_lt.2 c8)
        obtain rfl := Option.some.inj H
        go_enter Tryd.func25, Tryd.ntmps25
        try go_wp2_with (first | ((with_reducible refine gate_dst (N := 1) rfl ?_); refine boxE_ (cs := #[.int .u64 a0_0, .int .u64 a0_1, .int .u64 a0_2, .int .u64 a0_3]) (t := 24) ?_; intro gb247 hg w9 hbox hb; have BK247 := Aside0.mk (hbox); have GW247 := sizeB_ hg; have GE247 := sizeB_ hg; replace HB := stepB_ hb; clear hb hbox hg))
        replace BK247 := Aside0.mk (blk_drew BK247.out)
        replace HB := Aside0.mk (below_drew1 HB.out)
        refine start_ (n := 16) (S := fun w' => w'.cell? ⟨gb247, 0, none⟩ = some (.int .u64 a0_0) ∧ w'.cell? ⟨gb247, 1, none⟩ = some (.int .u64 a0_1) ∧ w'.cell? ⟨gb247, 2, none⟩ = some (.int .u64 a0_2) ∧ w'.cell? ⟨gb247, 3, none⟩ = some (.int .u64 a0_3)) (ds := []) #[false, false, false, false, false, false, false, false, false, false, false, false, false, false, false, false] (by kernel_rfl) rfl rfl ⟨(blk_cell BK247.out 0).trans rfl, (blk_cell BK247.out 1).trans rfl, (blk_cell BK247.out 2).trans rfl, (blk_cell BK247.out 3).trans rfl⟩ (fun hHeld => ?_); refine with_tabW spec_HashBytes.tab1 spec_HashBytes.bits1 (fun HT_ HW_ => ?_)
        generalize w9.drew = w10 at BK247 HB hHeld ⊢
        refine pure_ (i := 0) (N := some 3) (v := ?_) (a' := ?_) #[true, false, false, false, false, false, false, false, false, false, false, false, false, false, false, false] rfl rfl (any_of HT_.out (by kernel_rfl)) (fun _ _ _ h => h) (Or.inl ⟨by rfl, ?_⟩) ?_ ?_
        rotate_left
        · intro w'
          go_simp
          first | with_reducible rfl | (rw [if_neg (by intro h_; (try simp only [ByteArray.size_append, ByteArray.size_extract, eq_iff_iff, iff_true] at *); omega)]; first | done | rfl)
        rotate_left
        · simp only [Act.put, List.setIfInBounds_toArray, List.set_cons_zero, List.set_cons_succ, i64_w, i32_w]
          rfl
        refine pure_ (i := 3) (N := some 6) (v := ?_) (a' := ?_) #[true, false, false, true, false, false, false, false, false, false, false, false, false, false, false, false] rfl rfl (any_of HT_.out (by kernel_rfl)) (fun _ _ _ h => h) (Or.inl ⟨by rfl, ?_⟩) ?_ ?_
        rotate_left
        · intro w'
          go_simp
          first | with_reducible rfl | (rw [if_neg (by intro h_; (try simp only [ByteArray.size_append, ByteArray.size_extract, eq_iff_iff, iff_true] at *); omega)]; first | done | rfl)
        rotate_left
        · simp only [Act.put, List.setIfInBounds_toArray, List.set_cons_zero, List.set_cons_succ, i64_w, i32_w]
          rfl
        refine pure_ (i := 7) (N := some 10) (v := ?_) (a' := ?_) #[true, false, false, true, false, false, false, true, false, false, false, false, false, false, false, false] rfl rfl (any_of HT_.out (by kernel_rfl)) (fun _ _ _ h => h) (Or.inl ⟨by rfl, ?_⟩) ?_ ?_
        rotate_left
        · intro w'
          go_simp
          first | with_reducible rfl | (rw [if_neg (by intro h_; (try simp only [ByteArray.size_append, ByteArray.size_extract, eq_iff_iff, iff_true] at *); omega)]; first | done | rfl)
        rotate_left
        · simp only [Act.put, List.setIfInBounds_toArray, List.set_cons_zero, List.set_cons_succ, i64_w, i32_w]
          rfl
        refine pure_ (i := 11) (N := some 14) (v := ?_) (a' := ?_) #[true, false, false, true, false, false, false, true, false, false, false, true, false, false, false, false] rfl rfl (any_of HT_.out (by kernel_rfl)) (fun _ _ _ h => h) (Or.inl ⟨by rfl, ?_⟩) ?_ ?_
        rotate_left
        · intro w'
          go_simp
          first | with_reducible rfl | (rw [if_neg (by intro h_; (try simp only [ByteArray.size_append, ByteArray.size_extract, eq_iff_iff, iff_true] at *); omega)]; first | done | rfl)
        rotate_left
        · simp only [Act.put, List.setIfInBounds_toArray, List.set_cons_zero, List.set_cons_succ, i64_w, i32_w]
          rfl
        refine takeP_ 1 (some 4) #[true, true, false, true, false, false, false, true, false, false, false, true, false, false, false, false] HT_ HW_ hHeld ?_
        refine takeP_ 4 (some 7) #[true, true, false, true, true, false, false, true, false, false, false, true, false, false, false, false] HT_ HW_ hHeld ?_
        refine takeP_ 8 (some 11) #[true, true, false, true, true, false, false, true, true, false, false, true, false, false, false, false] HT_ HW_ hHeld ?_
        refine takeP_ 12 (some 15) #[true, true, false, true, true, false, false, true, true, false, false, true, true, false, false, false] HT_ HW_ hHeld ?_
        refine oneP_ 2 (some 5) #[true, true, true, true, true, false, false, true, true, false, false, true, true, false, false, false] HT_ (fun K hK => ?_)
        refine goN_ Tryd.func34 #[.int .u64 a0_0] ?_
        with_reducible refine (spec_l1Bytes.calls k a0_0 t248 _ A2.out).mono ?_
        rintro e w11 ⟨rfl, hb⟩
        refine ⟨_, rfl, ?_⟩
        replace BK247 := blkBel_ BK247.out hb
        replace HB := stepB_ hb
        (try clear hb)
        refine hK.out _ _ ⟨(blk_cell BK247.out 0).trans rfl, (blk_cell BK247.out 1).trans rfl, (blk_cell BK247.out 2).trans rfl, (blk_cell BK247.out 3).trans rfl⟩ (fun hHeld => ?_)
        clear hK K
        refine norm_ (a' := ?_) ?_ ?_
        rotate_left
        · show Act.put _ (some 5) _ = _
          simp only [Act.put, List.setIfInBounds_toArray, List.set_cons_zero, List.set_cons_succ, i64_w, i32_w]
          rfl
        refine oneP_ 5 (some 8) #[true, true, true, true, true, true, false, true, true, false, false, true, true, false, false, false] HT_ (fun K hK => ?_)
        refine goN_ Tryd.func34 #[.int .u64 a0_1] ?_
        with_reducible refine (spec_l1Bytes.calls k a0_1 t249 _ A3.out).mono ?_
        rintro e w12 ⟨rfl, hb⟩
        refine ⟨_, rfl, ?_⟩
        replace BK247 := blkBel_ BK247.out hb
        replace HB := stepB_ hb
        (try clear hb)
        refine hK.out _ _ ⟨(blk_cell BK247.out 0).trans rfl, (blk_cell BK247.out 1).trans rfl, (blk_cell BK247.out 2).trans rfl, (blk_cell BK247.out 3).trans rfl⟩ (fun hHeld => ?_)
        clear hK K
        refine norm_ (a' := ?_) ?_ ?_
        rotate_left
        · show Act.put _ (some 8) _ = _
          simp only [Act.put, List.setIfInBounds_toArray, List.set_cons_zero, List.set_cons_succ, i64_w, i32_w]
          rfl
        refine pure_ (i := 6) (N := some 9) (v := ?_) (a' := ?_) #[true, true, true, true, true, true, true, true, true, false, false, true, true, false, false, false] rfl rfl (any_of HT_.out (by kernel_rfl)) (fun _ _ _ h => h) (Or.inl ⟨by rfl, ?_⟩) ?_ ?_
        rotate_left
        · intro w'
          go_simp
          first | with_reducible rfl | (rw [if_neg (by intro h_; (try simp only [ByteArray.size_append, ByteArray.size_extract, eq_iff_iff, iff_true] at *); omega)]; first | done | rfl)
        rotate_left
        · simp only [Act.put, List.setIfInBounds_toArray, List.set_cons_zero, List.set_cons_succ, i64_w, i32_w]
          rfl
        refine oneP_ 9 (some 12) #[true, true, true, true, true, true, true, true, true, true, false, true, true, false, false, false] HT_ (fun K hK => ?_)
        refine goN_ Tryd.func34 #[.int .u64 a0_2] ?_
        with_reducible refine (spec_l1Bytes.calls k a0_2 t250 _ A5.out).mono ?_
        rintro e w13 ⟨rfl, hb⟩
        refine ⟨_, rfl, ?_⟩
        replace BK247 := blkBel_ BK247.out hb
        replace HB := stepB_ hb
        (try clear hb)
        refine hK.out _ _ ⟨(blk_cell BK247.out 0).trans rfl, (blk_cell BK247.out 1).trans rfl, (blk_cell BK247.out 2).trans rfl, (blk_cell BK247.out 3).trans rfl⟩ (fun hHeld => ?_)
        clear hK K
        refine norm_ (a' := ?_) ?_ ?_
        rotate_left
        · show Act.put _ (some 12) _ = _
          simp only [Act.put, List.setIfInBounds_toArray, List.set_cons_zero, List.set_cons_succ, i64_w, i32_w]
          rfl
        refine pure_ (i := 10) (N := some 13) (v := ?_) (a' := ?_) #[true, true, true, true, true, true, true, true, true, true, true, true, true, false, false, false] rfl rfl (any_of HT_.out (by kernel_rfl)) (fun _ _ _ h => h) (Or.inl ⟨by rfl, ?_⟩) ?_ ?_
        rotate_left
        · intro w'
          go_simp
          first | with_reducible rfl | (rw [if_neg (by intro h_; (try simp only [ByteArray.size_append, ByteArray.size_extract, eq_iff_iff, iff_true] at *); omega)]; first | done | rfl)
        rotate_left
        · simp only [Act.put, List.setIfInBounds_toArray, List.set_cons_zero, List.set_cons_succ, i64_w, i32_w]
          rfl
        refine oneP_ 13 (some 16) #[true, true, true, true, true, true, true, true, true, true, true, true, true, true, false, false] HT_ (fun K hK => ?_)
        refine goN_ Tryd.func34 #[.int .u64 a0_3] ?_
        with_reducible refine (spec_l1Bytes.calls k a0_3 t251 _ A7.out).mono ?_
        rintro e w14 ⟨rfl, hb⟩
        refine ⟨_, rfl, ?_⟩
        replace BK247 := blkBel_ BK247.out hb
        replace HB := stepB_ hb
        (try clear hb)
        refine hK.out _ _ ⟨(blk_cell BK247.out 0).trans rfl, (blk_cell BK247.out 1).trans rfl, (blk_cell BK247.out 2).trans rfl, (blk_cell BK247.out 3).trans rfl⟩ (fun hHeld => ?_)
        clear hK K
        refine norm_ (a' := ?_) ?_ ?_
        rotate_left
        · show Act.put _ (some 16) _ = _
          simp only [Act.put, List.setIfInBounds_toArray, List.set_cons_zero, List.set_cons_succ, i64_w, i32_w]
          rfl
        refine pure_ (i := 14) (N := some 17) (v := ?_) (a' := ?_) #[true, true, true, true, true, true, true, true, true, true, true, true, true, true, true, false] rfl rfl (any_of HT_.out (by kernel_rfl)) (fun _ _ _ h => h) (Or.inl ⟨by rfl, ?_⟩) ?_ ?_
        rotate_left
        · intro w'
          go_simp
          first | with_reducible rfl | (rw [if_neg (by intro h_; (try simp only [ByteArray.size_append, ByteArray.size_extract, eq_iff_iff, iff_true] at *); omega)]; first | done | rfl)
        rotate_left
        · simp only [Act.put, List.setIfInBounds_toArray, List.set_cons_zero, List.set_cons_succ, i64_w, i32_w]
          rfl
        refine pure_ (i := 15) (N := some 2) (v := ?_) (a' := ?_) #[true, true, true, true, true, true, true, true, true, true, true, true, true, true, true, true] rfl rfl (any_of HT_.out (by kernel_rfl)) (fun _ _ _ h => h) (Or.inl ⟨by rfl, ?_⟩) ?_ ?_
        rotate_left
        · intro w'
          go_simp
          first | with_reducible rfl | (rw [if_neg (by intro h_; (try simp only [ByteArray.size_append, ByteArray.size_extract, eq_iff_iff, iff_true] at *); omega)]; first | done | rfl)
        rotate_left
        · simp only [Act.put, List.setIfInBounds_toArray, List.set_cons_zero, List.set_cons_succ, i64_w, i32_w]
          rfl
        refine done_ (done_of HT_.out (by kernel_rfl)) ?_
        try go_wp2
        go_ret
        exact ⟨rfl_, bel_⟩
      · rw [if_neg c8] at H
        exact absurd H (by simp)
    · rw [if_neg c6] at H
      exact absurd H (by simp)
  · rw [if_neg c4] at H
    exact absurd H (by simp)
end
end Go.Proofs.YtflcbanemolkfaaDoor.B
