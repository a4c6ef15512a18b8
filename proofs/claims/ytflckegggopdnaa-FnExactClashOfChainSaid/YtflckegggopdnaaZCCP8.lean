/- Texts that this claim's law leans on, without what nothing names. What each says stands at its theorems; conditions stand in them. (Put together by the session's program shake.py; Lean checks it.) -/
import Derived.Test.YtflckegggopdnaaZCCP0
import Derived.Test.YtflckegggopdnaaZCCP2
import Derived.Test.YtflckegggopdnaaZCCGSpecHash1
set_option linter.unusedVariables false
set_option maxHeartbeats 8000000
set_option maxRecDepth 100000
set_option linter.unusedSimpArgs false
namespace Go.Proofs.Ytflckegggopdnaa.B
section
open Go.RowKit Go.Proofs.YtflckegggopdnaaW
section
def spec_HashBytes.f (k : Nat) (a0 a1 a2 a3 : Int) : Option (ByteArray) := (spec_l1Bytes.f k a0).bind fun t0 => ((spec_l1Bytes.f k a1).bind fun t1 => (if t0.size + t1.size ≤ 9223372036854775807 then ((spec_l1Bytes.f k a2).bind fun t2 => (if (t0 ++ t1).size + t2.size ≤ 9223372036854775807 then ((spec_l1Bytes.f k a3).bind fun t3 => (if ((t0 ++ t1) ++ t2).size + t3.size ≤ 9223372036854775807 then (some (((t0 ++ t1) ++ t2) ++ t3)) else (none))) else (none))) else (none)))
def spec_HashBytes.T1 : TT_ := (true, [([], []), ([0], [0]), ([1], [1]), ([], []), ([3], [3]), ([4, 2], [4]), ([2, 5], [2, 5]), ([], []), ([7], [7]), ([8, 5], [8]), ([6, 9], [6, 9]), ([], []), ([11], [11]), ([12, 9], [12]), ([10, 13], [10, 13]), ([14, 13, 0, 1, 2, 3, 4, 5, 6, 7, 8, 9, 10, 11, 12, 13, 14], [14])])
def spec_HashBytes.B1 : List Nat := [0, 1, 3, 0, 8, 31, 63, 0, 128, 447, 1023, 0, 2048, 7103, 16383, 32767]
theorem spec_HashBytes.tab1 : rtab .any (opsOf Try.f122 1) = spec_HashBytes.T1 := by kernel_rfl
theorem spec_HashBytes.bits1 : waitsOk spec_HashBytes.T1.2 spec_HashBytes.B1 = true := by kernel_rfl
theorem spec_HashBytes.calls (k : Nat) (a0 a1 a2 a3 : Int) (r : ByteArray) (w : World) (h : spec_HashBytes.f k a0 a1 a2 a3 = some r) :
  Calls Try.prog 122 #[.agg #[.int .u64 a0, .int .u64 a1, .int .u64 a2, .int .u64 a3]] w fun e w' => e = .returned (.string r) ∧ Below w.heap.size w w' := by
 have hu29 := Try.underlying29
 have HB := rB_ w
 have H := h
 unfold spec_HashBytes.f at H
 clear h
 obtain ⟨t0, A0, H⟩ := bnd_ H
 obtain ⟨t1, A1, H⟩ := bnd_ H
 obtain ⟨c4, H⟩ := ifn_ H
 have c11 := eq_true c4
 have c12 := decide_eq_true c4
 try have c13 : (9223372036854775807 < t0.size + t1.size) = False := eq_false (Nat.not_lt.2 c4)
 obtain ⟨t2, A2, H⟩ := bnd_ H
 obtain ⟨c6, H⟩ := ifn_ H
 have c14 := eq_true c6
 have c0 := decide_eq_true c6
 try (have c6b1n := c0; simp only [ByteArray.size_append, Int.natCast_add] at c6b1n)
 try have c15 : (9223372036854775807 < (t0 ++ t1).size + t2.size) = False := eq_false (Nat.not_lt.2 c6)
 obtain ⟨t3, A3, H⟩ := bnd_ H
 obtain ⟨c8, H⟩ := ifn_ H
 have c16 := eq_true c8
 have c1 := decide_eq_true c8
 try (have c8b1n := c1; simp only [ByteArray.size_append, Int.natCast_add] at c8b1n)
 try have c17 : (9223372036854775807 < ((t0 ++ t1) ++ t2).size + t3.size) = False := eq_false (Nat.not_lt.2 c8)
 obtain rfl := Option.some.inj H
 go_enter Try.func122, Try.ntmps122
 try go_wp2_with (first | (refine bx_ 1 #[.int .u64 a0, .int .u64 a1, .int .u64 a2, .int .u64 a3] 29 ?_; intro gb0 w1 hg hb BK0 GW0; replace HB := s_ hb; clear hb hg))
 replace BK0 := a_ (blk_drew BK0.out)
 replace HB := a_ (below_drew1 HB.out)
 refine start_ (n := 16) (S := fun w' => hd4_ w' gb0 (.int .u64 a0) (.int .u64 a1) (.int .u64 a2) (.int .u64 a3)) (ds := []) #[false, false, false, false, false, false, false, false, false, false, false, false, false, false, false, false] (by kernel_rfl) rfl rfl (hc4_ BK0.out) (fun hHeld => ?_); refine with_tabW spec_HashBytes.tab1 spec_HashBytes.bits1 (fun HT HW_ => ?_)
 generalize w1.drew = w2 at BK0 HB hHeld ⊢
 refine pureZ_ 0 (some 3) (b_ 16 1) HT ?_
 refine pureZ_ 3 (some 6) (b_ 16 9) HT ?_
 refine pureZ_ 7 (some 10) (b_ 16 137) HT ?_
 refine pureZ_ 11 (some 14) (b_ 16 2185) HT ?_
 refine qT_ 1 4 16 2187 ?_
 refine qT_ 4 7 16 2203 ?_
 refine qT_ 8 11 16 2459 ?_
 refine qT_ 12 15 16 6555 ?_
 refine oneP_ 2 (some 5) (b_ 16 6559) HT (fun K hK => ?_)
 refine goN_ Try.func116 #[.int .u64 a0] ?_
 with_reducible refine (spec_l1Bytes.calls _ _ _ _ A0.out).mono ?_
 rintro e w3 ⟨rfl, hb⟩
 refine ⟨_, rfl, ?_⟩
 replace BK0 := bb_ BK0.out hb
 replace HB := s_ hb
 (try clear hb)
 refine hK.out _ _ (hc4_ BK0.out) (fun hHeld => ?_)
 clear hK K
 refine normP_ (some 5) ?_
 refine oneP_ 5 (some 8) (b_ 16 6591) HT (fun K hK => ?_)
 refine goN_ Try.func116 #[.int .u64 a1] ?_
 with_reducible refine (spec_l1Bytes.calls _ _ _ _ A1.out).mono ?_
 rintro e w4 ⟨rfl, hb⟩
 refine ⟨_, rfl, ?_⟩
 replace BK0 := bb_ BK0.out hb
 replace HB := s_ hb
 (try clear hb)
 refine hK.out _ _ (hc4_ BK0.out) (fun hHeld => ?_)
 clear hK K
 refine normP_ (some 8) ?_
 refine pureZ_ 6 (some 9) (b_ 16 6655) HT ?_
 refine oneP_ 9 (some 12) (b_ 16 7167) HT (fun K hK => ?_)
 refine goN_ Try.func116 #[.int .u64 a2] ?_
 with_reducible refine (spec_l1Bytes.calls _ _ _ _ A2.out).mono ?_
 rintro e w5 ⟨rfl, hb⟩
 refine ⟨_, rfl, ?_⟩
 replace BK0 := bb_ BK0.out hb
 replace HB := s_ hb
 (try clear hb)
 refine hK.out _ _ (hc4_ BK0.out) (fun hHeld => ?_)
 clear hK K
 refine normP_ (some 12) ?_
 refine pureZ_ 10 (some 13) (b_ 16 8191) HT ?_
 refine oneP_ 13 (some 16) (b_ 16 16383) HT (fun K hK => ?_)
 refine goN_ Try.func116 #[.int .u64 a3] ?_
 with_reducible refine (spec_l1Bytes.calls _ _ _ _ A3.out).mono ?_
 rintro e w6 ⟨rfl, hb⟩
 refine ⟨_, rfl, ?_⟩
 replace BK0 := bb_ BK0.out hb
 replace HB := s_ hb
 (try clear hb)
 refine hK.out _ _ (hc4_ BK0.out) (fun hHeld => ?_)
 clear hK K
 refine normP_ (some 16) ?_
 refine pureZ_ 14 (some 17) (b_ 16 32767) HT ?_
 refine pureZ_ 15 (some 2) (b_ 16 65535) HT ?_
 refine done_ (done_of HT.out (by kernel_rfl)) ?_
 try go_wp2
 go_ret
 exact ⟨rfl_, bel_⟩
end
section
def spec_l1PairText.f (k : Nat) (a0 a1 a2 a3 a4 a5 a6 a7 : Int) : Option (ByteArray) := (some (([1] : List Int) : List Int)).bind fun y0 => ((spec_HashBytes.f k a0 a1 a2 a3).bind fun t0 => (if (strOfNums y0).size + t0.size ≤ 9223372036854775807 then ((spec_HashBytes.f k a4 a5 a6 a7).bind fun t1 => (if ((strOfNums y0) ++ t0).size + t1.size ≤ 9223372036854775807 then (some (((strOfNums y0) ++ t0) ++ t1)) else (none))) else (none)))
def spec_l1PairText.T1 : TT_ := (true, [([], []), ([0], [0]), ([], []), ([2], [2]), ([1, 3], [1, 3]), ([], []), ([5, 3], [5]), ([4, 6], [4, 6]), ([7, 6, 0, 1, 2, 3, 4, 5, 6, 7], [7])])
def spec_l1PairText.B1 : List Nat := [0, 1, 0, 4, 15, 0, 44, 127, 255]
theorem spec_l1PairText.tab1 : rtab .any (opsOf Try.f90 1) = spec_l1PairText.T1 := by kernel_rfl
theorem spec_l1PairText.bits1 : waitsOk spec_l1PairText.T1.2 spec_l1PairText.B1 = true := by kernel_rfl
theorem spec_l1PairText.calls (k : Nat) (a0 a1 a2 a3 a4 a5 a6 a7 : Int) (r : ByteArray) (w : World) (h : spec_l1PairText.f k a0 a1 a2 a3 a4 a5 a6 a7 = some r) :
  Calls Try.prog 90 #[.agg #[.int .u64 a0, .int .u64 a1, .int .u64 a2, .int .u64 a3], .agg #[.int .u64 a4, .int .u64 a5, .int .u64 a6, .int .u64 a7]] w fun e w' => e = .returned (.string r) ∧ Below w.heap.size w w' := by
 have hu29 := Try.underlying29
 have HB := rB_ w
 have H := h
 unfold spec_l1PairText.f at H
 clear h
 obtain ⟨y0, hy0⟩ : ∃ y_ : List Int, y_ = (([1] : List Int)) := ⟨_, rfl⟩
 replace H : ((spec_HashBytes.f k a0 a1 a2 a3).bind fun t0 => (if (strOfNums y0).size + t0.size ≤ 9223372036854775807 then ((spec_HashBytes.f k a4 a5 a6 a7).bind fun t1 => (if ((strOfNums y0) ++ t0).size + t1.size ≤ 9223372036854775807 then (some (((strOfNums y0) ++ t0) ++ t1)) else (none))) else (none))) = some r := rpl_ hy0 H
 have Ny0 := a_ hy0
 clear hy0
 obtain ⟨t0, A0, H⟩ := bnd_ H
 obtain ⟨c4, H⟩ := ifn_ H
 have c1 := eq_true c4
 have c11 := decide_eq_true c4
 try have c12 : (9223372036854775807 < (strOfNums y0).size + t0.size) = False := eq_false (Nat.not_lt.2 c4)
 obtain ⟨t1, A1, H⟩ := bnd_ H
 obtain ⟨c6, H⟩ := ifn_ H
 have c13 := eq_true c6
 have c0 := decide_eq_true c6
 try (have c6b1n := c0; simp only [ByteArray.size_append, Int.natCast_add] at c6b1n)
 try have c14 : (9223372036854775807 < ((strOfNums y0) ++ t0).size + t1.size) = False := eq_false (Nat.not_lt.2 c6)
 obtain rfl := Option.some.inj H
 go_enter Try.func90, Try.ntmps90
 try go_wp2_with (first | (refine bx_ 2 #[.int .u64 a0, .int .u64 a1, .int .u64 a2, .int .u64 a3] 29 ?_; intro gb0 w7 hg hb BK0 GW0; replace HB := s_ hb; clear hb hg) | (refine bx_ 3 #[.int .u64 a4, .int .u64 a5, .int .u64 a6, .int .u64 a7] 29 ?_; intro gb1 w8 hg hb BK1 GW1; replace HB := s_ hb; obtain ⟨NB0, NB1⟩ := ne2_ BK0.out hg; replace BK0 := bb_ BK0.out hb; clear hb hg))
 replace BK0 := a_ (blk_drew BK0.out)
 replace BK1 := a_ (blk_drew BK1.out)
 replace HB := a_ (below_drew1 HB.out)
 refine start_ (n := 9) (S := fun w' => hdc4_ w' gb0 (.int .u64 a0) (.int .u64 a1) (.int .u64 a2) (.int .u64 a3) (hd4_ w' gb1 (.int .u64 a4) (.int .u64 a5) (.int .u64 a6) (.int .u64 a7))) (ds := []) #[false, false, false, false, false, false, false, false, false] (by kernel_rfl) rfl rfl (hcc4_ BK0.out (hc4_ BK1.out)) (fun hHeld => ?_); refine with_tabW spec_l1PairText.tab1 spec_l1PairText.bits1 (fun HT HW_ => ?_)
 generalize w8.drew = w9 at BK0 BK1 HB hHeld ⊢
 refine qT_ 2 7 9 4 ?_
 refine qT_ 5 10 9 36 ?_
 refine join_ (σ := Value) 2 (b_ 9 127) (fun s_ => [(5, s_), (6, .string (strOfNums y0)), (8, .string t0), (11, .string t1), (9, .string ((strOfNums y0) ++ t0))]) (fun s_ w' => (hdc4_ w' gb0 (.int .u64 a0) (.int .u64 a1) (.int .u64 a2) (.int .u64 a3) (hd4_ w' gb1 (.int .u64 a4) (.int .u64 a5) (.int .u64 a6) (.int .u64 a7))) ∧ (Kd.R (Kd.int .u8) 5 w' w.heap.size (fun _ => True) s_ y0) ∧ (w'.heap[gb0]? = some (.cells #[.int .u64 a0, .int .u64 a1, .int .u64 a2, .int .u64 a3] 29 (0, 0))) ∧ (w'.heap[gb1]? = some (.cells #[.int .u64 a4, .int .u64 a5, .int .u64 a6, .int .u64 a7] 29 (0, 0))) ∧ (Below w.heap.size w w')) ?_ ?_
 rotate_left
 ·intro hJ0_1_3_6
  refine join_ (σ := Value) 3 (b_ 9 63) (fun s_ => [(5, s_), (6, .string (strOfNums y0)), (8, .string t0), (9, .string ((strOfNums y0) ++ t0))]) (fun s_ w' => (hdc4_ w' gb0 (.int .u64 a0) (.int .u64 a1) (.int .u64 a2) (.int .u64 a3) (hd4_ w' gb1 (.int .u64 a4) (.int .u64 a5) (.int .u64 a6) (.int .u64 a7))) ∧ (Kd.R (Kd.int .u8) 5 w' w.heap.size (fun _ => True) s_ y0) ∧ (w'.heap[gb0]? = some (.cells #[.int .u64 a0, .int .u64 a1, .int .u64 a2, .int .u64 a3] 29 (0, 0))) ∧ (w'.heap[gb1]? = some (.cells #[.int .u64 a4, .int .u64 a5, .int .u64 a6, .int .u64 a7] 29 (0, 0))) ∧ (Below w.heap.size w w')) ?_ ?_
  rotate_left
  ·intro hJ0_1_3
   refine join_ (σ := Value) 4 (b_ 9 109) (fun s_ => [(5, s_), (8, .string t0), (11, .string t1)]) (fun s_ w' => (hdc4_ w' gb0 (.int .u64 a0) (.int .u64 a1) (.int .u64 a2) (.int .u64 a3) (hd4_ w' gb1 (.int .u64 a4) (.int .u64 a5) (.int .u64 a6) (.int .u64 a7))) ∧ (Kd.R (Kd.int .u8) 5 w' w.heap.size (fun _ => True) s_ y0) ∧ (w'.heap[gb0]? = some (.cells #[.int .u64 a0, .int .u64 a1, .int .u64 a2, .int .u64 a3] 29 (0, 0))) ∧ (w'.heap[gb1]? = some (.cells #[.int .u64 a4, .int .u64 a5, .int .u64 a6, .int .u64 a7] 29 (0, 0))) ∧ (Below w.heap.size w w')) ?_ ?_
   rotate_left
   ·intro hJ0_3_6
    refine join_ (σ := Value) 5 (b_ 9 39) (fun s_ => [(5, s_), (6, .string (strOfNums y0))]) (fun s_ w' => (hdc4_ w' gb0 (.int .u64 a0) (.int .u64 a1) (.int .u64 a2) (.int .u64 a3) (hd4_ w' gb1 (.int .u64 a4) (.int .u64 a5) (.int .u64 a6) (.int .u64 a7))) ∧ (Kd.R (Kd.int .u8) 5 w' w.heap.size (fun _ => True) s_ y0) ∧ (w'.heap[gb0]? = some (.cells #[.int .u64 a0, .int .u64 a1, .int .u64 a2, .int .u64 a3] 29 (0, 0))) ∧ (w'.heap[gb1]? = some (.cells #[.int .u64 a4, .int .u64 a5, .int .u64 a6, .int .u64 a7] 29 (0, 0))) ∧ (Below w.heap.size w w')) ?_ ?_
    rotate_left
    ·intro hJ0_1
     refine join_ (σ := Value) 5 (b_ 9 45) (fun s_ => [(5, s_), (8, .string t0)]) (fun s_ w' => (hdc4_ w' gb0 (.int .u64 a0) (.int .u64 a1) (.int .u64 a2) (.int .u64 a3) (hd4_ w' gb1 (.int .u64 a4) (.int .u64 a5) (.int .u64 a6) (.int .u64 a7))) ∧ (Kd.R (Kd.int .u8) 5 w' w.heap.size (fun _ => True) s_ y0) ∧ (w'.heap[gb0]? = some (.cells #[.int .u64 a0, .int .u64 a1, .int .u64 a2, .int .u64 a3] 29 (0, 0))) ∧ (w'.heap[gb1]? = some (.cells #[.int .u64 a4, .int .u64 a5, .int .u64 a6, .int .u64 a7] 29 (0, 0))) ∧ (Below w.heap.size w w')) ?_ ?_
     rotate_left
     ·intro hJ0_3
      refine join_ (σ := Unit) 5 (b_ 9 108) (fun s_ => [(8, .string t0), (11, .string t1)]) (fun s_ w' => (hdc4_ w' gb0 (.int .u64 a0) (.int .u64 a1) (.int .u64 a2) (.int .u64 a3) (hd4_ w' gb1 (.int .u64 a4) (.int .u64 a5) (.int .u64 a6) (.int .u64 a7))) ∧ (w'.heap[gb0]? = some (.cells #[.int .u64 a0, .int .u64 a1, .int .u64 a2, .int .u64 a3] 29 (0, 0))) ∧ (w'.heap[gb1]? = some (.cells #[.int .u64 a4, .int .u64 a5, .int .u64 a6, .int .u64 a7] 29 (0, 0))) ∧ (Below w.heap.size w w')) ?_ ?_
      rotate_left
      ·intro hJ3_6
       refine join_ (σ := Value) 6 (b_ 9 37) (fun s_ => [(5, s_)]) (fun s_ w' => (hdc4_ w' gb0 (.int .u64 a0) (.int .u64 a1) (.int .u64 a2) (.int .u64 a3) (hd4_ w' gb1 (.int .u64 a4) (.int .u64 a5) (.int .u64 a6) (.int .u64 a7))) ∧ (Kd.R (Kd.int .u8) 5 w' w.heap.size (fun _ => True) s_ y0) ∧ (w'.heap[gb0]? = some (.cells #[.int .u64 a0, .int .u64 a1, .int .u64 a2, .int .u64 a3] 29 (0, 0))) ∧ (w'.heap[gb1]? = some (.cells #[.int .u64 a4, .int .u64 a5, .int .u64 a6, .int .u64 a7] 29 (0, 0))) ∧ (Below w.heap.size w w')) ?_ ?_
       rotate_left
       ·intro hJ0
        refine join_ (σ := Unit) 6 (b_ 9 44) (fun s_ => [(8, .string t0)]) (fun s_ w' => (hdc4_ w' gb0 (.int .u64 a0) (.int .u64 a1) (.int .u64 a2) (.int .u64 a3) (hd4_ w' gb1 (.int .u64 a4) (.int .u64 a5) (.int .u64 a6) (.int .u64 a7))) ∧ (w'.heap[gb0]? = some (.cells #[.int .u64 a0, .int .u64 a1, .int .u64 a2, .int .u64 a3] 29 (0, 0))) ∧ (w'.heap[gb1]? = some (.cells #[.int .u64 a4, .int .u64 a5, .int .u64 a6, .int .u64 a7] 29 (0, 0))) ∧ (Below w.heap.size w w')) ?_ ?_
        rotate_left
        ·intro hJ3
         refine two_ (i := 0) (j := 3) (Ni := some 5) (Nj := some 8) (b_ 9 37) (b_ 9 44) rfl rfl rfl rfl (two_of HT.out (by kernel_rfl)) (by decide) (by decide) (fun K hK => ?_) (fun K hK => ?_)
         ·skip
          refine Kd.R_lit_step (Kd.int .u8) _ 5 ?hg (N := 5) ?hd (xs := ([1] : List Int)) (inner := [.int .u8 1]) (ok := fun _ => True) (okp := fun _ => True) ?hr ?hp (fun _ hk => hk) trivial (Below.refl _ _) (Nat.le_refl _) (by simp) ?_; (case hd => rfl); (case hg => rfl); (case hr => first | (go_simp; done) | (go_simp; rfl)); (case hp => exact (Reps.one (show Kd.M (Kd.int .u8) _ _ _ 1 [.int .u8 1] from rfl) (Reps.none _ _)))
          intro v0 w6 ho0 hb hg_ hnew_
          clear hg_ hnew_
          (first | rw [← Ny0.out] at ho0 | (simp only [Int.reduceToNat] at ho0; rw [← Ny0.out] at ho0))
          have HO0 := a_ (Kd.R_lower ho0 (below_size bel_))
          replace BK0 := bb_ BK0.out hb
          replace BK1 := bb_ BK1.out hb
          replace HB := s_ hb
          clear hb ho0
          refine hK.out _ _ (hcc4_ BK0.out (hc4_ BK1.out)) (fun hHeld => ?_)
          clear hK K
          refine normP_ (some 5) ?_
          exact jn_ (hJ0 (v0) _ ⟨hHeld, (kdU_ HO0.out), (blkU_ BK0.out), (blkU_ BK1.out), bel_⟩)
         ·skip
          refine goN_ Try.func122 #[.agg #[.int .u64 a0, .int .u64 a1, .int .u64 a2, .int .u64 a3]] ?_
          with_reducible refine (spec_HashBytes.calls _ _ _ _ _ _ _ A0.out).mono ?_
          rintro e w6 ⟨rfl, hb⟩
          refine ⟨_, rfl, ?_⟩
          replace BK0 := bb_ BK0.out hb
          replace BK1 := bb_ BK1.out hb
          replace HB := s_ hb
          (try clear hb)
          refine hK.out _ _ (hcc4_ BK0.out (hc4_ BK1.out)) (fun hHeld => ?_)
          clear hK K
          refine normP_ (some 8) ?_
          exact jn_ (hJ3 () _ ⟨hHeld, (blkU_ BK0.out), (blkU_ BK1.out), bel_⟩)
        ·skip
         rintro _ w5 ⟨hS_, h0_, h1_, h2_⟩
         have n0_ := a_ h0_
         have n1_ := a_ h1_
         have n2_ := a_ h2_
         clear BK0
         clear BK1
         clear HB
         clear h0_ h1_ h2_
         have BK0 := n0_
         have BK1 := n1_
         have HB := n2_
         clear n0_ n1_ n2_
         have hHeld : hdc4_ w5 gb0 (.int .u64 a0) (.int .u64 a1) (.int .u64 a2) (.int .u64 a3) (hd4_ w5 gb1 (.int .u64 a4) (.int .u64 a5) (.int .u64 a6) (.int .u64 a7)) := hS_
         refine norm_ (a' := ?_) ?_ ?_
         rotate_left
         ·simp only [putAll, Act.put, List.setIfInBounds_toArray, List.set_cons_zero, List.set_cons_succ]
          rfl
         refine two_ (i := 0) (j := 6) (Ni := some 5) (Nj := some 11) (b_ 9 45) (b_ 9 108) rfl rfl rfl rfl (two_of HT.out (by kernel_rfl)) (by decide) (by decide) (fun K hK => ?_) (fun K hK => ?_)
         ·skip
          refine Kd.R_lit_step (Kd.int .u8) _ 5 ?hg (N := 5) ?hd (xs := ([1] : List Int)) (inner := [.int .u8 1]) (ok := fun _ => True) (okp := fun _ => True) ?hr ?hp (fun _ hk => hk) trivial (Below.refl _ _) (Nat.le_refl _) (by simp) ?_; (case hd => rfl); (case hg => rfl); (case hr => first | (go_simp; done) | (go_simp; rfl)); (case hp => exact (Reps.one (show Kd.M (Kd.int .u8) _ _ _ 1 [.int .u8 1] from rfl) (Reps.none _ _)))
          intro v0 w1 ho1 hb hg_ hnew_
          clear hg_ hnew_
          (first | rw [← Ny0.out] at ho1 | (simp only [Int.reduceToNat] at ho1; rw [← Ny0.out] at ho1))
          have HO0 := a_ (Kd.R_lower ho1 (below_size bel_))
          replace BK0 := bb_ BK0.out hb
          replace BK1 := bb_ BK1.out hb
          replace HB := s_ hb
          clear hb ho1
          refine hK.out _ _ (hcc4_ BK0.out (hc4_ BK1.out)) (fun hHeld => ?_)
          clear hK K
          refine normP_ (some 5) ?_
          exact jn_ (hJ0_3 (v0) _ ⟨hHeld, (kdU_ HO0.out), (blkU_ BK0.out), (blkU_ BK1.out), bel_⟩)
         ·skip
          refine goN_ Try.func122 #[.agg #[.int .u64 a4, .int .u64 a5, .int .u64 a6, .int .u64 a7]] ?_
          with_reducible refine (spec_HashBytes.calls _ _ _ _ _ _ _ A1.out).mono ?_
          rintro e w1 ⟨rfl, hb⟩
          refine ⟨_, rfl, ?_⟩
          replace BK0 := bb_ BK0.out hb
          replace BK1 := bb_ BK1.out hb
          replace HB := s_ hb
          (try clear hb)
          refine hK.out _ _ (hcc4_ BK0.out (hc4_ BK1.out)) (fun hHeld => ?_)
          clear hK K
          refine normP_ (some 11) ?_
          exact jn_ (hJ3_6 () _ ⟨hHeld, (blkU_ BK0.out), (blkU_ BK1.out), bel_⟩)
       ·skip
        rintro v0 w1 ⟨hS_, h0_, h1_, h2_, h3_⟩
        have n0_ := a_ h0_
        have n1_ := a_ h1_
        have n2_ := a_ h2_
        have n3_ := a_ h3_
        clear BK0
        clear BK1
        clear HB
        clear h0_ h1_ h2_ h3_
        have HO0 := n0_
        have BK0 := n1_
        have BK1 := n2_
        have HB := n3_
        clear n0_ n1_ n2_ n3_
        have hHeld : hdc4_ w1 gb0 (.int .u64 a0) (.int .u64 a1) (.int .u64 a2) (.int .u64 a3) (hd4_ w1 gb1 (.int .u64 a4) (.int .u64 a5) (.int .u64 a6) (.int .u64 a7)) := hS_
        refine norm_ (a' := ?_) ?_ ?_
        rotate_left
        ·simp only [putAll, Act.put, List.setIfInBounds_toArray, List.set_cons_zero, List.set_cons_succ]
         rfl
        refine two_ (i := 1) (j := 3) (Ni := some 6) (Nj := some 8) (b_ 9 39) (b_ 9 45) rfl rfl rfl rfl (two_of HT.out (by kernel_rfl)) (by decide) (by decide) (fun K hK => ?_) (fun K hK => ?_)
        ·skip
         have hcv0 := own_string (P := Try.prog) Try.underlying60 Try.underlying5 Try.underlying9 (Kd.own_of_R HO0.out)
         refine value_ (w1 := ?_) (v := ?_) (by rfl) rfl ?_ ?_
         rotate_left 2
         ·go_simp
          constructor
          ·rfl
          ·rfl
         clear hcv0
         refine hK.out _ _ (hcc4_ BK0.out (hc4_ BK1.out)) (fun hHeld => ?_)
         clear hK K
         refine normP_ (some 6) ?_
         exact jn_ (hJ0_1 (v0) _ ⟨hHeld, (kdU_ HO0.out), (blkU_ BK0.out), (blkU_ BK1.out), bel_⟩)
        ·skip
         refine goN_ Try.func122 #[.agg #[.int .u64 a0, .int .u64 a1, .int .u64 a2, .int .u64 a3]] ?_
         with_reducible refine (spec_HashBytes.calls _ _ _ _ _ _ _ A0.out).mono ?_
         rintro e w2 ⟨rfl, hb⟩
         refine ⟨_, rfl, ?_⟩
         replace HO0 := rb_ HO0.out hb
         replace BK0 := bb_ BK0.out hb
         replace BK1 := bb_ BK1.out hb
         replace HB := s_ hb
         (try clear hb)
         refine hK.out _ _ (hcc4_ BK0.out (hc4_ BK1.out)) (fun hHeld => ?_)
         clear hK K
         refine normP_ (some 8) ?_
         exact jn_ (hJ0_3 (v0) _ ⟨hHeld, (kdU_ HO0.out), (blkU_ BK0.out), (blkU_ BK1.out), bel_⟩)
      ·skip
       rintro _ w1 ⟨hS_, h0_, h1_, h2_⟩
       have n0_ := a_ h0_
       have n1_ := a_ h1_
       have n2_ := a_ h2_
       clear BK0
       clear BK1
       clear HB
       clear h0_ h1_ h2_
       have BK0 := n0_
       have BK1 := n1_
       have HB := n2_
       clear n0_ n1_ n2_
       have hHeld : hdc4_ w1 gb0 (.int .u64 a0) (.int .u64 a1) (.int .u64 a2) (.int .u64 a3) (hd4_ w1 gb1 (.int .u64 a4) (.int .u64 a5) (.int .u64 a6) (.int .u64 a7)) := hS_
       refine norm_ (a' := ?_) ?_ ?_
       rotate_left
       ·simp only [putAll, Act.put, List.setIfInBounds_toArray, List.set_cons_zero, List.set_cons_succ]
        rfl
       refine oneP_ 0 (some 5) (b_ 9 109) HT (fun K hK => ?_)
       refine Kd.R_lit_step (Kd.int .u8) _ 5 ?hg (N := 5) ?hd (xs := ([1] : List Int)) (inner := [.int .u8 1]) (ok := fun _ => True) (okp := fun _ => True) ?hr ?hp (fun _ hk => hk) trivial (Below.refl _ _) (Nat.le_refl _) (by simp) ?_; (case hd => rfl); (case hg => rfl); (case hr => first | (go_simp; done) | (go_simp; rfl)); (case hp => exact (Reps.one (show Kd.M (Kd.int .u8) _ _ _ 1 [.int .u8 1] from rfl) (Reps.none _ _)))
       intro v0 w2 ho2 hb hg_ hnew_
       clear hg_ hnew_
       (first | rw [← Ny0.out] at ho2 | (simp only [Int.reduceToNat] at ho2; rw [← Ny0.out] at ho2))
       have HO0 := a_ (Kd.R_lower ho2 (below_size bel_))
       replace BK0 := bb_ BK0.out hb
       replace BK1 := bb_ BK1.out hb
       replace HB := s_ hb
       clear hb ho2
       refine hK.out _ _ (hcc4_ BK0.out (hc4_ BK1.out)) (fun hHeld => ?_)
       clear hK K
       refine normP_ (some 5) ?_
       exact jn_ (hJ0_3_6 (v0) _ ⟨hHeld, (kdU_ HO0.out), (blkU_ BK0.out), (blkU_ BK1.out), bel_⟩)
     ·skip
      rintro v0 w2 ⟨hS_, h0_, h1_, h2_, h3_⟩
      have n0_ := a_ h0_
      have n1_ := a_ h1_
      have n2_ := a_ h2_
      have n3_ := a_ h3_
      clear BK0
      clear BK1
      clear HB
      clear h0_ h1_ h2_ h3_
      have HO0 := n0_
      have BK0 := n1_
      have BK1 := n2_
      have HB := n3_
      clear n0_ n1_ n2_ n3_
      have hHeld : hdc4_ w2 gb0 (.int .u64 a0) (.int .u64 a1) (.int .u64 a2) (.int .u64 a3) (hd4_ w2 gb1 (.int .u64 a4) (.int .u64 a5) (.int .u64 a6) (.int .u64 a7)) := hS_
      refine norm_ (a' := ?_) ?_ ?_
      rotate_left
      ·simp only [putAll, Act.put, List.setIfInBounds_toArray, List.set_cons_zero, List.set_cons_succ]
       rfl
      refine two_ (i := 1) (j := 6) (Ni := some 6) (Nj := some 11) (b_ 9 47) (b_ 9 109) rfl rfl rfl rfl (two_of HT.out (by kernel_rfl)) (by decide) (by decide) (fun K hK => ?_) (fun K hK => ?_)
      ·skip
       have hcv1 := own_string (P := Try.prog) Try.underlying60 Try.underlying5 Try.underlying9 (Kd.own_of_R HO0.out)
       refine value_ (w1 := ?_) (v := ?_) (by rfl) rfl ?_ ?_
       rotate_left 2
       ·go_simp
        constructor
        ·rfl
        ·rfl
       clear hcv1
       refine hK.out _ _ (hcc4_ BK0.out (hc4_ BK1.out)) (fun hHeld => ?_)
       clear hK K
       refine normP_ (some 6) ?_
       refine pureZ_ 4 (some 9) (b_ 9 63) HT ?_
       exact jn_ (hJ0_1_3 (v0) _ ⟨hHeld, (kdU_ HO0.out), (blkU_ BK0.out), (blkU_ BK1.out), bel_⟩)
      ·skip
       refine goN_ Try.func122 #[.agg #[.int .u64 a4, .int .u64 a5, .int .u64 a6, .int .u64 a7]] ?_
       with_reducible refine (spec_HashBytes.calls _ _ _ _ _ _ _ A1.out).mono ?_
       rintro e w3 ⟨rfl, hb⟩
       refine ⟨_, rfl, ?_⟩
       replace HO0 := rb_ HO0.out hb
       replace BK0 := bb_ BK0.out hb
       replace BK1 := bb_ BK1.out hb
       replace HB := s_ hb
       (try clear hb)
       refine hK.out _ _ (hcc4_ BK0.out (hc4_ BK1.out)) (fun hHeld => ?_)
       clear hK K
       refine normP_ (some 11) ?_
       exact jn_ (hJ0_3_6 (v0) _ ⟨hHeld, (kdU_ HO0.out), (blkU_ BK0.out), (blkU_ BK1.out), bel_⟩)
    ·skip
     rintro v0 w2 ⟨hS_, h0_, h1_, h2_, h3_⟩
     have n0_ := a_ h0_
     have n1_ := a_ h1_
     have n2_ := a_ h2_
     have n3_ := a_ h3_
     clear BK0
     clear BK1
     clear HB
     clear h0_ h1_ h2_ h3_
     have HO0 := n0_
     have BK0 := n1_
     have BK1 := n2_
     have HB := n3_
     clear n0_ n1_ n2_ n3_
     have hHeld : hdc4_ w2 gb0 (.int .u64 a0) (.int .u64 a1) (.int .u64 a2) (.int .u64 a3) (hd4_ w2 gb1 (.int .u64 a4) (.int .u64 a5) (.int .u64 a6) (.int .u64 a7)) := hS_
     refine norm_ (a' := ?_) ?_ ?_
     rotate_left
     ·simp only [putAll, Act.put, List.setIfInBounds_toArray, List.set_cons_zero, List.set_cons_succ]
      rfl
     refine oneP_ 3 (some 8) (b_ 9 47) HT (fun K hK => ?_)
     refine goN_ Try.func122 #[.agg #[.int .u64 a0, .int .u64 a1, .int .u64 a2, .int .u64 a3]] ?_
     with_reducible refine (spec_HashBytes.calls _ _ _ _ _ _ _ A0.out).mono ?_
     rintro e w3 ⟨rfl, hb⟩
     refine ⟨_, rfl, ?_⟩
     replace HO0 := rb_ HO0.out hb
     replace BK0 := bb_ BK0.out hb
     replace BK1 := bb_ BK1.out hb
     replace HB := s_ hb
     (try clear hb)
     refine hK.out _ _ (hcc4_ BK0.out (hc4_ BK1.out)) (fun hHeld => ?_)
     clear hK K
     refine normP_ (some 8) ?_
     refine pureZ_ 4 (some 9) (b_ 9 63) HT ?_
     exact jn_ (hJ0_1_3 (v0) _ ⟨hHeld, (kdU_ HO0.out), (blkU_ BK0.out), (blkU_ BK1.out), bel_⟩)
   ·skip
    rintro v0 w3 ⟨hS_, h0_, h1_, h2_, h3_⟩
    have n0_ := a_ h0_
    have n1_ := a_ h1_
    have n2_ := a_ h2_
    have n3_ := a_ h3_
    clear BK0
    clear BK1
    clear HB
    clear h0_ h1_ h2_ h3_
    have HO0 := n0_
    have BK0 := n1_
    have BK1 := n2_
    have HB := n3_
    clear n0_ n1_ n2_ n3_
    have hHeld : hdc4_ w3 gb0 (.int .u64 a0) (.int .u64 a1) (.int .u64 a2) (.int .u64 a3) (hd4_ w3 gb1 (.int .u64 a4) (.int .u64 a5) (.int .u64 a6) (.int .u64 a7)) := hS_
    refine norm_ (a' := ?_) ?_ ?_
    rotate_left
    ·simp only [putAll, Act.put, List.setIfInBounds_toArray, List.set_cons_zero, List.set_cons_succ]
     rfl
    refine oneP_ 1 (some 6) (b_ 9 111) HT (fun K hK => ?_)
    have hcv2 := own_string (P := Try.prog) Try.underlying60 Try.underlying5 Try.underlying9 (Kd.own_of_R HO0.out)
    refine value_ (w1 := ?_) (v := ?_) (by rfl) rfl ?_ ?_
    rotate_left 2
    ·go_simp
     constructor
     ·rfl
     ·rfl
    clear hcv2
    refine hK.out _ _ (hcc4_ BK0.out (hc4_ BK1.out)) (fun hHeld => ?_)
    clear hK K
    refine normP_ (some 6) ?_
    refine pureZ_ 4 (some 9) (b_ 9 127) HT ?_
    exact jn_ (hJ0_1_3_6 (v0) _ ⟨hHeld, (kdU_ HO0.out), (blkU_ BK0.out), (blkU_ BK1.out), bel_⟩)
  ·skip
   rintro v0 w3 ⟨hS_, h0_, h1_, h2_, h3_⟩
   have n0_ := a_ h0_
   have n1_ := a_ h1_
   have n2_ := a_ h2_
   have n3_ := a_ h3_
   clear BK0
   clear BK1
   clear HB
   clear h0_ h1_ h2_ h3_
   have HO0 := n0_
   have BK0 := n1_
   have BK1 := n2_
   have HB := n3_
   clear n0_ n1_ n2_ n3_
   have hHeld : hdc4_ w3 gb0 (.int .u64 a0) (.int .u64 a1) (.int .u64 a2) (.int .u64 a3) (hd4_ w3 gb1 (.int .u64 a4) (.int .u64 a5) (.int .u64 a6) (.int .u64 a7)) := hS_
   refine norm_ (a' := ?_) ?_ ?_
   rotate_left
   ·simp only [putAll, Act.put, List.setIfInBounds_toArray, List.set_cons_zero, List.set_cons_succ]
    rfl
   refine oneP_ 6 (some 11) (b_ 9 127) HT (fun K hK => ?_)
   refine goN_ Try.func122 #[.agg #[.int .u64 a4, .int .u64 a5, .int .u64 a6, .int .u64 a7]] ?_
   with_reducible refine (spec_HashBytes.calls _ _ _ _ _ _ _ A1.out).mono ?_
   rintro e w4 ⟨rfl, hb⟩
   refine ⟨_, rfl, ?_⟩
   replace HO0 := rb_ HO0.out hb
   replace BK0 := bb_ BK0.out hb
   replace BK1 := bb_ BK1.out hb
   replace HB := s_ hb
   (try clear hb)
   refine hK.out _ _ (hcc4_ BK0.out (hc4_ BK1.out)) (fun hHeld => ?_)
   clear hK K
   refine normP_ (some 11) ?_
   exact jn_ (hJ0_1_3_6 (v0) _ ⟨hHeld, (kdU_ HO0.out), (blkU_ BK0.out), (blkU_ BK1.out), bel_⟩)
 rintro v0 w4 ⟨hS_, h0_, h1_, h2_, h3_⟩
 have n0_ := a_ h0_
 have n1_ := a_ h1_
 have n2_ := a_ h2_
 have n3_ := a_ h3_
 clear BK0
 clear BK1
 clear HB
 clear h0_ h1_ h2_ h3_
 have HO0 := n0_
 have BK0 := n1_
 have BK1 := n2_
 have HB := n3_
 clear n0_ n1_ n2_ n3_
 have hHeld : hdc4_ w4 gb0 (.int .u64 a0) (.int .u64 a1) (.int .u64 a2) (.int .u64 a3) (hd4_ w4 gb1 (.int .u64 a4) (.int .u64 a5) (.int .u64 a6) (.int .u64 a7)) := hS_
 refine norm_ (a' := ?_) ?_ ?_
 rotate_left
 ·simp only [putAll, Act.put, List.setIfInBounds_toArray, List.set_cons_zero, List.set_cons_succ]
  rfl
 refine pureZ_ 7 (some 12) (b_ 9 255) HT ?_
 refine pureZ_ 8 (some 4) (b_ 9 511) HT ?_
 refine done_ (done_of HT.out (by kernel_rfl)) ?_
 try go_wp2
 go_ret
 exact ⟨rfl_, bel_⟩
end
section
def spec_HashPair.f (k : Nat) (a0 a1 a2 a3 a4 a5 a6 a7 : Int) : Option (Int × Int × Int × Int) := (spec_l1PairText.f k a0 a1 a2 a3 a4 a5 a6 a7).bind fun t0 => ((spec_HashOf.f k t0).bind fun bt0 => (some (bt0.1, bt0.2.1, bt0.2.2.1, bt0.2.2.2)))
theorem spec_HashPair.calls (k : Nat) (a0 a1 a2 a3 a4 a5 a6 a7 r0 r1 r2 r3 : Int) (w : World) (h : spec_HashPair.f k a0 a1 a2 a3 a4 a5 a6 a7 = some (r0, r1, r2, r3)) :
  Calls Try.prog 119 #[.agg #[.int .u64 a0, .int .u64 a1, .int .u64 a2, .int .u64 a3], .agg #[.int .u64 a4, .int .u64 a5, .int .u64 a6, .int .u64 a7]] w fun e w' => e = .returned (.agg #[.int .u64 r0, .int .u64 r1, .int .u64 r2, .int .u64 r3]) ∧ Below w.heap.size w w' := by
 have hu29 := Try.underlying29
 have HB := rB_ w
 have H := h
 unfold spec_HashPair.f at H
 clear h
 obtain ⟨t4, A0, H⟩ := bnd_ H
 obtain ⟨⟨t0, t1, t2, t3⟩, A1, H⟩ := bnd_ H
 dsimp only at H
 simp only [Option.some.injEq, Prod.mk.injEq] at H
 obtain ⟨rfl, rfl, rfl, rfl⟩ := H
 go_enter Try.func119, Try.ntmps119
 go_wp2_with (first | (refine bx_ 2 #[.int .u64 a0, .int .u64 a1, .int .u64 a2, .int .u64 a3] 29 ?_; intro gb1 w3 hg hb BK0 GW0; replace HB := s_ hb; clear hb hg) | (refine bx_ 3 #[.int .u64 a4, .int .u64 a5, .int .u64 a6, .int .u64 a7] 29 ?_; intro gb2 w4 hg hb BK1 GW1; replace HB := s_ hb; obtain ⟨NB0, NB2⟩ := ne2_ BK0.out hg; replace BK0 := bb_ BK0.out hb; clear hb hg) | (refine bx_ 4 #[.int .u64 0, .int .u64 0, .int .u64 0, .int .u64 0] 29 ?_; intro gb0 w5 hg hb BK2 GW2; replace HB := s_ hb; obtain ⟨NB1, NB4⟩ := ne2_ BK0.out hg; replace BK0 := bb_ BK0.out hb; obtain ⟨NB3, NB5⟩ := ne2_ BK1.out hg; replace BK1 := bb_ BK1.out hb; clear hb hg; have hnb1 := NB0.out; have hnc1 := NB2.out; have hnb2 := NB1.out; have hnc2 := NB4.out; obtain ⟨z0, z1, z2, z3, f0, f1, f2, f3⟩ := cz4_ BK0.out; have hnb0 := NB3.out; have hnc0 := NB5.out; obtain ⟨z4, z5, z6, z7, f4, f5, f6, f7⟩ := cz4_ BK1.out) | (refine gcB_ 90 7 Try.func90 (spec_l1PairText.calls _ _ _ _ _ _ _ _ _ _ _ A0.out) ?_; intro w1 hb; replace BK0 := bb_ BK0.out hb; replace BK1 := bb_ BK1.out hb; replace BK2 := bb_ BK2.out hb; replace HB := s_ hb; clear hb) | (refine gcB_ 72 8 Try.func72 (spec_HashOf.calls _ _ _ _ _ _ _ A1.out) ?_; intro w2 hb; replace BK0 := bb_ BK0.out hb; replace BK1 := bb_ BK1.out hb; replace BK2 := bb_ BK2.out hb; replace HB := s_ hb; clear hb; obtain ⟨z8, z9, z10, z11, f8, f9, f10, f11⟩ := cz4_ BK2.out))
 refine bodyPost_ret (results_cell_row rfl _ _ gb0 29 #[.int .u64 t0, .int .u64 t1, .int .u64 t2, .int .u64 t3] (0, 0) _ rfl (blkF_ BK2.out) Try.underlying29 rfl (by kernel_rfl)) rfl ?_
 exact ⟨rfl_, bel_⟩
end
section
def spec_l1LeafText.f (a0 : ByteArray) : Option (ByteArray) := (some (([0] : List Int) : List Int)).bind fun y0 => (if (strOfNums y0).size + a0.size ≤ 9223372036854775807 then (some ((strOfNums y0) ++ a0)) else (none))
theorem spec_l1LeafText.calls (a0 r : ByteArray) (w : World) (h : spec_l1LeafText.f a0 = some r) :
  Calls Try.prog 87 #[.string a0] w fun e w' => e = .returned (.string r) ∧ Below w.heap.size w w' := by
 have HB := rB_ w
 have H := h
 unfold spec_l1LeafText.f at H
 clear h
 obtain ⟨y0, hy0⟩ : ∃ y_ : List Int, y_ = (([0] : List Int)) := ⟨_, rfl⟩
 replace H : (if (strOfNums y0).size + a0.size ≤ 9223372036854775807 then (some ((strOfNums y0) ++ a0)) else (none)) = some r := rpl_ hy0 H
 have Ny0 := a_ hy0
 clear hy0
 obtain ⟨c2, H⟩ := ifn_ H
 have c0 := eq_true c2
 have c1 := decide_eq_true c2
 try have c11 : (9223372036854775807 < (strOfNums y0).size + a0.size) = False := eq_false (Nat.not_lt.2 c2)
 obtain rfl := Option.some.inj H
 go_enter Try.func87, Try.ntmps87
 go_wp2_with (first | ((with_reducible refine gate_dst (N := 3) rfl ?_); refine Kd.R_lit (Kd.int .u8) _ 5 ?hg (N := 3) ?hd (xs := ([0] : List Int)) (inner := [.int .u8 0]) (ok := fun _ => True) (okp := fun _ => True) ?hr ?hp (fun _ hk => hk) trivial (Below.refl _ _) (Nat.le_refl _) (by simp) ?_; (case hd => rfl); (case hg => rfl); (case hr => first | (go_simp; done) | (go_simp; rfl)); (case hp => exact (Reps.one (show Kd.M (Kd.int .u8) _ _ _ 0 [.int .u8 0] from rfl) (Reps.none _ _))); intro v0 w1 ho0 hb hg_ hnew_; clear hg_ hnew_; (first | rw [← Ny0.out] at ho0 | (simp only [Int.reduceToNat] at ho0; rw [← Ny0.out] at ho0)); have HO0 := a_ (Kd.R_lower ho0 (below_size bel_)); replace HB := s_ hb; clear hb ho0; have hcv0 := own_string (P := Try.prog) Try.underlying60 Try.underlying5 Try.underlying9 (Kd.own_of_R HO0.out)))
 go_ret
 exact ⟨rfl_, bel_⟩
end
section
def spec_HashLeaf.f (k : Nat) (a0 : ByteArray) : Option (Int × Int × Int × Int) := (spec_l1LeafText.f a0).bind fun t0 => ((spec_HashOf.f k t0).bind fun bt0 => (some (bt0.1, bt0.2.1, bt0.2.2.1, bt0.2.2.2)))
theorem spec_HashLeaf.calls (k : Nat) (a0 : ByteArray) (r0 r1 r2 r3 : Int) (w : World) (h : spec_HashLeaf.f k a0 = some (r0, r1, r2, r3)) :
  Calls Try.prog 92 #[.string a0] w fun e w' => e = .returned (.agg #[.int .u64 r0, .int .u64 r1, .int .u64 r2, .int .u64 r3]) ∧ Below w.heap.size w w' := by
 have hu29 := Try.underlying29
 have HB := rB_ w
 have H := h
 unfold spec_HashLeaf.f at H
 clear h
 obtain ⟨t4, A0, H⟩ := bnd_ H
 obtain ⟨⟨t0, t1, t2, t3⟩, A1, H⟩ := bnd_ H
 dsimp only at H
 simp only [Option.some.injEq, Prod.mk.injEq] at H
 obtain ⟨rfl, rfl, rfl, rfl⟩ := H
 go_enter Try.func92, Try.ntmps92
 go_wp2_with (first | (refine bx_ 2 #[.int .u64 0, .int .u64 0, .int .u64 0, .int .u64 0] 29 ?_; intro gb0 w1 hg hb BK0 GW0; replace HB := s_ hb; clear hb hg) | (refine gcB_ 87 4 Try.func87 (spec_l1LeafText.calls _ _ _ A0.out) ?_; intro w2 hb; replace BK0 := bb_ BK0.out hb; replace HB := s_ hb; clear hb) | (refine gcB_ 72 5 Try.func72 (spec_HashOf.calls _ _ _ _ _ _ _ A1.out) ?_; intro w3 hb; replace BK0 := bb_ BK0.out hb; replace HB := s_ hb; clear hb; obtain ⟨z0, z1, z2, z3, f0, f1, f2, f3⟩ := cz4_ BK0.out))
 refine bodyPost_ret (results_cell_row rfl _ _ gb0 29 #[.int .u64 t0, .int .u64 t1, .int .u64 t2, .int .u64 t3] (0, 0) _ rfl (blkF_ BK0.out) Try.underlying29 rfl (by kernel_rfl)) rfl ?_
 exact ⟨rfl_, bel_⟩
end
section
mutual
def spec_ClashFirst.l0 : Nat → List ByteArray → List ByteArray → Int → Option (ByteArray × ByteArray × Bool)
 | 0, _, _, _ => none
 | k + 1, x1, x2, x0 => if x0 < (x1.length : Int) then (spec_ClashFirst.j1 k x1 x2 x0 (decide (x0 < (x2.length : Int)))) else (spec_ClashFirst.j1 k x1 x2 x0 false)
def spec_ClashFirst.j1 : Nat → List ByteArray → List ByteArray → Int → Bool → Option (ByteArray × ByteArray × Bool)
 | 0, _, _, _, _ => none
 | k + 1, x1, x2, x0, x3 => if x3 = true then (if 0 ≤ x0 then (if x0 < (x1.length : Int) then (if x0 < (x2.length : Int) then (if (rdOf ByteArray.empty x1 x0).toList = (rdOf ByteArray.empty x2 x0).toList then (spec_ClashFirst.l0 k x1 x2 (wrap64 (x0 + 1))) else (some (rdOf ByteArray.empty x1 x0, rdOf ByteArray.empty x2 x0, true))) else (none)) else (none)) else (none)) else (some ((⟨#[]⟩ : ByteArray), (⟨#[]⟩ : ByteArray), false))
end
def spec_ClashFirst.f (k : Nat) (l0 l1 : List ByteArray) : Option (ByteArray × ByteArray × Bool) := spec_ClashFirst.l0 k l0 l1 0
def spec_ClashFirst.T4 : TT_ := (true, [([], []), ([], []), ([0, 1], [0, 1]), ([2], [2]), ([], []), ([], []), ([4, 5], [4, 5]), ([6], [6]), ([3, 7], [3, 7])])
def spec_ClashFirst.B4 : List Nat := [0, 0, 3, 7, 0, 0, 48, 112, 255]
theorem spec_ClashFirst.tab4 : rtab .any (opsOf Try.f47 4) = spec_ClashFirst.T4 := by kernel_rfl
theorem spec_ClashFirst.bits4 : waitsOk spec_ClashFirst.T4.2 spec_ClashFirst.B4 = true := by kernel_rfl
def spec_ClashFirst.T5 : TT_ := (true, [([], []), ([], []), ([0, 1], [0, 1]), ([2], [2]), ([], []), ([], []), ([4, 5], [4, 5]), ([6], [6]), ([3, 7], [3, 7]), ([8, 0, 1, 2, 3, 4, 5, 6, 7, 8], [8]), ([9, 0, 1, 2, 3, 4, 5, 6, 7, 8, 9], [])])
def spec_ClashFirst.B5 : List Nat := [0, 0, 3, 7, 0, 0, 48, 112, 255, 511, 1023]
theorem spec_ClashFirst.tab5 : rtab .any (opsOf Try.f47 5) = spec_ClashFirst.T5 := by kernel_rfl
theorem spec_ClashFirst.bits5 : waitsOk spec_ClashFirst.T5.2 spec_ClashFirst.B5 = true := by kernel_rfl
theorem spec_ClashFirst.calls (k : Nat) (A0 : Option Addr) (c11 : Nat) (l0 : List ByteArray) (A1 : Option Addr) (c1 : Nat) (l1 : List ByteArray) (r0 r1 : ByteArray) (r2 : Bool) (w : World) (hr0 : Kd.C Kd.string w A0 l0.length l0) (hc0 : l0.length ≤ c11) (hr1 : Kd.C Kd.string w A1 l1.length l1) (hc1 : l1.length ≤ c1) (h : spec_ClashFirst.f k l0 l1 = some (r0, r1, r2)) :
  Calls Try.prog 47 #[.slice A0 l0.length c11, .slice A1 l1.length c1] w fun e w' => e = .returned (.tuple #[.agg #[.string r0, .string r1], .bool r2]) ∧ Below w.heap.size w w' := by
 have hu46 := Try.underlying46
 have HR0 := a_ hr0
 have HC0 := a_ hc0
 clear hr0 hc0
 have HR1 := a_ hr1
 have HC1 := a_ hc1
 clear hr1 hc1
 have HB := rB_ w
 have H := h
 unfold spec_ClashFirst.f at H
 clear h
 have H' := a_ H
 clear H
 go_enter Try.func47, Try.ntmps47
 go_wp2_with (first | ((with_reducible refine gate_dst (N := 4) rfl ?_); (try (refine gate_guard (by rfl) ?_; dsimp only)); refine boxE_ (cs := #[.string (⟨#[]⟩ : ByteArray), .string (⟨#[]⟩ : ByteArray)]) (t := 46) ?_; intro gb0 hg w4 hbox hb; have BK0 := a_ (hbox); have GW0 := sizeB_ hg; replace HB := s_ hb; clear hb hbox hg))
 go_loopg [6] k (fun kq v1 w' => ∃ (x0 : Int) (x1 x2 : ByteArray), v1 = .int .i64 x0 ∧ Aside0 (spec_ClashFirst.l0 kq l0 l1 x0 = some (r0, r1, r2)) ∧ Aside0 (kq ≤ k) ∧ Aside0 (w'.heap[gb0]? = some (.cells #[.string x1, .string x2] 46 (0, 0))) ∧ Aside0 (Below w.heap.size w w'))
 case atStart => exact ⟨(0), ((⟨#[]⟩ : ByteArray)), ((⟨#[]⟩ : ByteArray)), rl_, H', ⟨Nat.le_refl _⟩, ⟨blkU_ BK0.out⟩, ⟨bel_⟩⟩
 case round =>
  clear H'
  (try clear c1)
  obtain ⟨x0, x1, x2, rfl, HA, HK1, BK0, HB⟩ := hrel
  cases gk with
  | zero => exact absurd HA.out (by simp [spec_ClashFirst.l0])
  | succ k1 =>
   have H := HA.out
   clear HA
   simp only [spec_ClashFirst.l0] at H
   have HC4 := a_ H
   clear H
   go_upto_region 2 with (fail)
   go_cut [16] (fun v0 wc => ∃ (kq : Nat) (x3 : Bool), v0 = .bool x3 ∧ Aside0 (spec_ClashFirst.j1 kq l0 l1 x0 x3 = some (r0, r1, r2)) ∧ Aside0 (kq ≤ k1) ∧ Aside0 (wc.heap[gb0]? = some (.cells #[.string x1, .string x2] 46 (0, 0))) ∧ Aside0 (Below w.heap.size w wc))
   case first =>
    have H := HC4.out
    clear HC4
    by_cases c5 : x0 < (l0.length : Int)
    ·rw [if_pos c5] at H
     have c0 := decide_eq_true c5
     clear c5
     (first | rw [c0] | (simp only [i64_w, i32_w]; rw [c0]) | skip)
     have H' := a_ H
     clear H
     go_wp2
     go_meet
     case rel => exact ⟨_, (decide (x0 < (l1.length : Int))), rl_, H', ⟨by have := HK1.out; first | omega | exact Nat.le_refl _⟩, ⟨blkU_ BK0.out⟩, ⟨bel_⟩⟩
    ·rw [if_neg c5] at H
     have c0 := decide_eq_false c5
     clear c5
     (first | rw [c0] | (simp only [i64_w, i32_w]; rw [c0]) | skip)
     have H' := a_ H
     clear H
     go_wp2
     go_meet
     case rel => exact ⟨_, (false), rl_, H', ⟨by have := HK1.out; first | omega | exact Nat.le_refl _⟩, ⟨blkU_ BK0.out⟩, ⟨bel_⟩⟩
   case rest =>
    clear HC4
    (try clear c1); (try clear c5); (try clear c0)
    obtain ⟨kq, x3, rfl, HA, HJ3, BK0, HB⟩ := hcut
    cases kq with
    | zero => exact absurd HA.out (by simp [spec_ClashFirst.j1])
    | succ kj0 =>
     have H := HA.out
     clear HA
     simp only [spec_ClashFirst.j1] at H
     by_cases c6 : x3 = true
     ·subst c6
      rw [if_pos rfl] at H
      obtain ⟨c14, H⟩ := ifd_ H
      obtain ⟨c15, H⟩ := ifd_ H
      obtain ⟨c16, H⟩ := ifd_ H
      by_cases c10 : (rdOf ByteArray.empty l0 x0).toList = (rdOf ByteArray.empty l1 x0).toList
      ·rw [if_pos c10] at H
       have c12 := beq_iff_eq.mpr c10
       have c13 := bne_eq_false_iff_eq.mpr c10
       clear c10
       have H' := a_ H
       clear H
       try go_wp2
       replace BK0 := a_ (blk_drew BK0.out)
       replace HB := a_ (below_drew1 HB.out)
       have p0 : 0 ≤ (x0 : Int) := ofd_
       have q0 : x0 < (l0.length : Int) := ofd_
       obtain ⟨ad0, e0, hx0⟩ := Kd.at_string HR0.out x0 p0 q0
       have hw0 := hx0
       cases e0
       replace hx0 := pc_ HB.out hx0
       replace p0 := eq_true p0
       replace q0 := eq_true q0
       have p1 : 0 ≤ (x0 : Int) := ofd_
       have q1 : x0 < (l1.length : Int) := ofd_
       obtain ⟨ad1, e1, hx1⟩ := Kd.at_string HR1.out x0 p1 q1
       have hw1 := hx1
       cases e1
       replace hx1 := pc_ HB.out hx1
       replace p1 := eq_true p1
       replace q1 := eq_true q1
       refine start_ (n := 9) (S := fun w' => w'.cell? (ad0.add (x0).toNat) = some (.string (rdOf ByteArray.empty l0 x0)) ∧ w'.cell? (ad1.add (x0).toNat) = some (.string (rdOf ByteArray.empty l1 x0))) (ds := []) #[false, false, false, false, false, false, false, false, false] (by kernel_rfl) rfl rfl ⟨(pc_ HB.out hw0), (pc_ HB.out hw1)⟩ (fun hHeld => ?_); refine with_tabW spec_ClashFirst.tab4 spec_ClashFirst.bits4 (fun HT HW_ => ?_)
       generalize wc.drew = w3 at BK0 HB hx0 hx1 hHeld ⊢
       refine qP_ 0 19 9 1 ?_
       refine qP_ 1 20 9 3 ?_
       refine qP_ 2 21 9 7 ?_
       refine qP_ 4 23 9 23 ?_
       refine qP_ 5 24 9 55 ?_
       refine qP_ 6 25 9 119 ?_
       refine qT_ 3 22 9 127 ?_
       refine qT_ 7 26 9 255 ?_
       refine qP_ 8 27 9 511 ?_
       refine done_ (done_of HT.out (by kernel_rfl)) ?_
       try go_wp2
       go_roundg kj0
       case measure => have := HK1.out; have := HJ3.out; omega
       case rel => exact ⟨(wrap64 (x0 + 1)), (x1), (x2), rl_, H', ⟨by have := HK1.out; have := HJ3.out; omega⟩, ⟨blkU_ BK0.out⟩, ⟨bel_⟩⟩
      ·rw [if_neg c10] at H
       have c12 := beq_eq_false_iff_ne.mpr c10
       have c13 := bne_iff_ne.mpr c10
       simp only [Option.some.injEq, Prod.mk.injEq] at H
       obtain ⟨rfl, rfl, rfl⟩ := H
       try go_wp2
       replace BK0 := a_ (blk_drew BK0.out)
       replace HB := a_ (below_drew1 HB.out)
       have p0 : 0 ≤ (x0 : Int) := ofd_
       have q0 : x0 < (l0.length : Int) := ofd_
       obtain ⟨ad0, e0, hx0⟩ := Kd.at_string HR0.out x0 p0 q0
       have hw0 := hx0
       cases e0
       replace hx0 := pc_ HB.out hx0
       replace p0 := eq_true p0
       replace q0 := eq_true q0
       have p1 : 0 ≤ (x0 : Int) := ofd_
       have q1 : x0 < (l1.length : Int) := ofd_
       obtain ⟨ad1, e1, hx1⟩ := Kd.at_string HR1.out x0 p1 q1
       have hw1 := hx1
       cases e1
       replace hx1 := pc_ HB.out hx1
       replace p1 := eq_true p1
       replace q1 := eq_true q1
       refine start_ (n := 9) (S := fun w' => w'.cell? (ad0.add (x0).toNat) = some (.string (rdOf ByteArray.empty l0 x0)) ∧ w'.cell? (ad1.add (x0).toNat) = some (.string (rdOf ByteArray.empty l1 x0))) (ds := []) #[false, false, false, false, false, false, false, false, false] (by kernel_rfl) rfl rfl ⟨(pc_ HB.out hw0), (pc_ HB.out hw1)⟩ (fun hHeld => ?_); refine with_tabW spec_ClashFirst.tab4 spec_ClashFirst.bits4 (fun HT HW_ => ?_)
       generalize wc.drew = w2 at BK0 HB hx0 hx1 hHeld ⊢
       refine qP_ 0 19 9 1 ?_
       refine qP_ 1 20 9 3 ?_
       refine qP_ 2 21 9 7 ?_
       refine qP_ 4 23 9 23 ?_
       refine qP_ 5 24 9 55 ?_
       refine qP_ 6 25 9 119 ?_
       refine qT_ 3 22 9 127 ?_
       refine qT_ 7 26 9 255 ?_
       refine qP_ 8 27 9 511 ?_
       refine done_ (done_of HT.out (by kernel_rfl)) ?_
       try go_wp2
       replace BK0 := a_ (blk_drew BK0.out)
       replace HB := a_ (below_drew1 HB.out)
       have p2 : 0 ≤ (x0 : Int) := ofd_
       have q2 : x0 < (l0.length : Int) := ofd_
       obtain ⟨ad2, e2, hx2⟩ := Kd.at_string HR0.out x0 p2 q2
       have hw2 := hx2
       obtain rfl : ad0 = ad2 := (by injection e2)
       replace hx2 := pc_ HB.out hx2
       replace p2 := eq_true p2
       replace q2 := eq_true q2
       have p3 : 0 ≤ (x0 : Int) := ofd_
       have q3 : x0 < (l1.length : Int) := ofd_
       obtain ⟨ad3, e3, hx3⟩ := Kd.at_string HR1.out x0 p3 q3
       have hw3 := hx3
       obtain rfl : ad1 = ad3 := (by injection e3)
       replace hx3 := pc_ HB.out hx3
       replace p3 := eq_true p3
       replace q3 := eq_true q3
       refine start_ (n := 11) (S := fun w' => w'.cell? (ad0.add (x0).toNat) = some (.string (rdOf ByteArray.empty l0 x0)) ∧ w'.cell? (ad1.add (x0).toNat) = some (.string (rdOf ByteArray.empty l1 x0))) (ds := []) #[false, false, false, false, false, false, false, false, false, false, false] (by kernel_rfl) rfl rfl ⟨(pc_ HB.out hw2), (pc_ HB.out hw3)⟩ (fun hHeld => ?_); refine with_tabW spec_ClashFirst.tab5 spec_ClashFirst.bits5 (fun HT HW_ => ?_)
       generalize w2.drew = w1 at BK0 HB hx2 hx3 hHeld ⊢
       refine qP_ 0 28 11 1 ?_
       refine qP_ 1 29 11 3 ?_
       refine qP_ 2 30 11 7 ?_
       refine qP_ 4 32 11 23 ?_
       refine qP_ 5 33 11 55 ?_
       refine qP_ 6 34 11 119 ?_
       refine qT_ 3 31 11 127 ?_
       refine qT_ 7 35 11 255 ?_
       refine qP_ 8 36 11 511 ?_
       refine oneP_ 9 none (b_ 11 1023) HT (fun K hK => ?_)
       have hs0 : w1.cell? ⟨gb0, 0, none⟩ = some (.string x1) := (blk_cell BK0.out 0).trans rfl
       have hfs14 := blk_frozen BK0.out 0
       have hs1 : w1.cell? ⟨gb0, 1, none⟩ = some (.string x2) := (blk_cell BK0.out 1).trans rfl
       have hfs15 := blk_frozen BK0.out 1
       refine skip_ (w1 := ?_) (by rfl) rfl ?_ ?_
       rotate_left
       ·go_simp
        rfl
       refine hK.out _ _ ⟨(cf2_ (nw_ hw2 GW0.out) hHeld.1), (cf2_ (nw_ hw3 GW0.out) hHeld.2)⟩ (fun hHeld => ?_)
       clear hK K
       refine qP_ 10 5 11 2047 ?_
       refine done_ (done_of HT.out (by kernel_rfl)) ?_
       try go_wp2
       refine bodyPost_ret (results_ct rfl _ _ gb0 46 #[.string (rdOf ByteArray.empty l0 x0), .string (rdOf ByteArray.empty l1 x0)] (0, 0) _ rfl (blkF_ BK0.out) Try.underlying46 rfl (by kernel_rfl)) rfl ?_
       exact ⟨rfl_, bel_⟩
     ·replace c6 := Bool.eq_false_iff.mpr c6
      subst c6
      rw [if_neg (show ¬ (false = true) by decide)] at H
      simp only [Option.some.injEq, Prod.mk.injEq] at H
      obtain ⟨rfl, rfl, rfl⟩ := H
      obtain ⟨z0, z1, f0, f1⟩ := cz2_ BK0.out
      go_wp2
      refine bodyPost_ret (results_ct rfl _ _ gb0 46 #[.string (⟨#[]⟩ : ByteArray), .string (⟨#[]⟩ : ByteArray)] (0, 0) _ rfl (blkF_ BK0.out) Try.underlying46 rfl (by kernel_rfl)) rfl ?_
      exact ⟨rfl_, bel_⟩
end
section
mutual
def impl_ClashFirst.l0 : Nat → List ByteArray → List ByteArray → Int → Option (ByteArray × ByteArray × Bool)
 | 0, _, _, _ => none
 | k + 1, x1, x2, x0 => if x0 < (x1.length : Int) then (impl_ClashFirst.j1 k x1 x2 x0 (decide (x0 < (x2.length : Int)))) else (impl_ClashFirst.j1 k x1 x2 x0 false)
def impl_ClashFirst.j1 : Nat → List ByteArray → List ByteArray → Int → Bool → Option (ByteArray × ByteArray × Bool)
 | 0, _, _, _, _ => none
 | k + 1, x1, x2, x0, x3 => if x3 = true then (if 0 ≤ x0 then (if x0 < (x1.length : Int) then (if x0 < (x2.length : Int) then (if (rdOf ByteArray.empty x1 x0).toList = (rdOf ByteArray.empty x2 x0).toList then (impl_ClashFirst.l0 k x1 x2 (wrap64 (x0 + 1))) else (some (rdOf ByteArray.empty x1 x0, rdOf ByteArray.empty x2 x0, true))) else (none)) else (none)) else (none)) else (some ((⟨#[]⟩ : ByteArray), (⟨#[]⟩ : ByteArray), false))
end
def impl_ClashFirst.f (k : Nat) (l0 l1 : List ByteArray) : Option (ByteArray × ByteArray × Bool) := impl_ClashFirst.l0 k l0 l1 0
def impl_ClashFirst.T4 : TT_ := (true, [([], []), ([], []), ([0, 1], [0, 1]), ([2], [2]), ([], []), ([], []), ([4, 5], [4, 5]), ([6], [6]), ([3, 7], [3, 7])])
def impl_ClashFirst.B4 : List Nat := [0, 0, 3, 7, 0, 0, 48, 112, 255]
theorem impl_ClashFirst.tab4 : rtab .any (opsOf Try.f53 4) = impl_ClashFirst.T4 := by kernel_rfl
theorem impl_ClashFirst.bits4 : waitsOk impl_ClashFirst.T4.2 impl_ClashFirst.B4 = true := by kernel_rfl
def impl_ClashFirst.T5 : TT_ := (true, [([], []), ([], []), ([0, 1], [0, 1]), ([2], [2]), ([], []), ([], []), ([4, 5], [4, 5]), ([6], [6]), ([3, 7], [3, 7]), ([8, 0, 1, 2, 3, 4, 5, 6, 7, 8], [8]), ([9, 0, 1, 2, 3, 4, 5, 6, 7, 8, 9], [])])
def impl_ClashFirst.B5 : List Nat := [0, 0, 3, 7, 0, 0, 48, 112, 255, 511, 1023]
theorem impl_ClashFirst.tab5 : rtab .any (opsOf Try.f53 5) = impl_ClashFirst.T5 := by kernel_rfl
theorem impl_ClashFirst.bits5 : waitsOk impl_ClashFirst.T5.2 impl_ClashFirst.B5 = true := by kernel_rfl
theorem impl_ClashFirst.calls (k : Nat) (A0 : Option Addr) (c11 : Nat) (l0 : List ByteArray) (A1 : Option Addr) (c1 : Nat) (l1 : List ByteArray) (r0 r1 : ByteArray) (r2 : Bool) (w : World) (hr0 : Kd.C Kd.string w A0 l0.length l0) (hc0 : l0.length ≤ c11) (hr1 : Kd.C Kd.string w A1 l1.length l1) (hc1 : l1.length ≤ c1) (h : impl_ClashFirst.f k l0 l1 = some (r0, r1, r2)) :
  Calls Try.prog 53 #[.slice A0 l0.length c11, .slice A1 l1.length c1] w fun e w' => e = .returned (.tuple #[.agg #[.string r0, .string r1], .bool r2]) ∧ Below w.heap.size w w' := by
 have hu46 := Try.underlying46
 have HR0 := a_ hr0
 have HC0 := a_ hc0
 clear hr0 hc0
 have HR1 := a_ hr1
 have HC1 := a_ hc1
 clear hr1 hc1
 have HB := rB_ w
 have H := h
 unfold impl_ClashFirst.f at H
 clear h
 have H' := a_ H
 clear H
 go_enter Try.func53, Try.ntmps53
 go_wp2_with (first | ((with_reducible refine gate_dst (N := 4) rfl ?_); (try (refine gate_guard (by rfl) ?_; dsimp only)); refine boxE_ (cs := #[.string (⟨#[]⟩ : ByteArray), .string (⟨#[]⟩ : ByteArray)]) (t := 46) ?_; intro gb0 hg w4 hbox hb; have BK0 := a_ (hbox); have GW0 := sizeB_ hg; replace HB := s_ hb; clear hb hbox hg))
 go_loopg [6] k (fun kq v1 w' => ∃ (x0 : Int) (x1 x2 : ByteArray), v1 = .int .i64 x0 ∧ Aside0 (impl_ClashFirst.l0 kq l0 l1 x0 = some (r0, r1, r2)) ∧ Aside0 (kq ≤ k) ∧ Aside0 (w'.heap[gb0]? = some (.cells #[.string x1, .string x2] 46 (0, 0))) ∧ Aside0 (Below w.heap.size w w'))
 case atStart => exact ⟨(0), ((⟨#[]⟩ : ByteArray)), ((⟨#[]⟩ : ByteArray)), rl_, H', ⟨Nat.le_refl _⟩, ⟨blkU_ BK0.out⟩, ⟨bel_⟩⟩
 case round =>
  clear H'
  (try clear c1)
  obtain ⟨x0, x1, x2, rfl, HA, HK1, BK0, HB⟩ := hrel
  cases gk with
  | zero => exact absurd HA.out (by simp [impl_ClashFirst.l0])
  | succ k1 =>
   have H := HA.out
   clear HA
   simp only [impl_ClashFirst.l0] at H
   have HC4 := a_ H
   clear H
   go_upto_region 2 with (fail)
   go_cut [16] (fun v0 wc => ∃ (kq : Nat) (x3 : Bool), v0 = .bool x3 ∧ Aside0 (impl_ClashFirst.j1 kq l0 l1 x0 x3 = some (r0, r1, r2)) ∧ Aside0 (kq ≤ k1) ∧ Aside0 (wc.heap[gb0]? = some (.cells #[.string x1, .string x2] 46 (0, 0))) ∧ Aside0 (Below w.heap.size w wc))
   case first =>
    have H := HC4.out
    clear HC4
    by_cases c5 : x0 < (l0.length : Int)
    ·rw [if_pos c5] at H
     have c0 := decide_eq_true c5
     clear c5
     (first | rw [c0] | (simp only [i64_w, i32_w]; rw [c0]) | skip)
     have H' := a_ H
     clear H
     go_wp2
     go_meet
     case rel => exact ⟨_, (decide (x0 < (l1.length : Int))), rl_, H', ⟨by have := HK1.out; first | omega | exact Nat.le_refl _⟩, ⟨blkU_ BK0.out⟩, ⟨bel_⟩⟩
    ·rw [if_neg c5] at H
     have c0 := decide_eq_false c5
     clear c5
     (first | rw [c0] | (simp only [i64_w, i32_w]; rw [c0]) | skip)
     have H' := a_ H
     clear H
     go_wp2
     go_meet
     case rel => exact ⟨_, (false), rl_, H', ⟨by have := HK1.out; first | omega | exact Nat.le_refl _⟩, ⟨blkU_ BK0.out⟩, ⟨bel_⟩⟩
   case rest =>
    clear HC4
    (try clear c1); (try clear c5); (try clear c0)
    obtain ⟨kq, x3, rfl, HA, HJ3, BK0, HB⟩ := hcut
    cases kq with
    | zero => exact absurd HA.out (by simp [impl_ClashFirst.j1])
    | succ kj0 =>
     have H := HA.out
     clear HA
     simp only [impl_ClashFirst.j1] at H
     by_cases c6 : x3 = true
     ·subst c6
      rw [if_pos rfl] at H
      obtain ⟨c14, H⟩ := ifd_ H
      obtain ⟨c15, H⟩ := ifd_ H
      obtain ⟨c16, H⟩ := ifd_ H
      by_cases c10 : (rdOf ByteArray.empty l0 x0).toList = (rdOf ByteArray.empty l1 x0).toList
      ·rw [if_pos c10] at H
       have c12 := beq_iff_eq.mpr c10
       have c13 := bne_eq_false_iff_eq.mpr c10
       clear c10
       have H' := a_ H
       clear H
       try go_wp2
       replace BK0 := a_ (blk_drew BK0.out)
       replace HB := a_ (below_drew1 HB.out)
       have p0 : 0 ≤ (x0 : Int) := ofd_
       have q0 : x0 < (l0.length : Int) := ofd_
       obtain ⟨ad0, e0, hx0⟩ := Kd.at_string HR0.out x0 p0 q0
       have hw0 := hx0
       cases e0
       replace hx0 := pc_ HB.out hx0
       replace p0 := eq_true p0
       replace q0 := eq_true q0
       have p1 : 0 ≤ (x0 : Int) := ofd_
       have q1 : x0 < (l1.length : Int) := ofd_
       obtain ⟨ad1, e1, hx1⟩ := Kd.at_string HR1.out x0 p1 q1
       have hw1 := hx1
       cases e1
       replace hx1 := pc_ HB.out hx1
       replace p1 := eq_true p1
       replace q1 := eq_true q1
       refine start_ (n := 9) (S := fun w' => w'.cell? (ad0.add (x0).toNat) = some (.string (rdOf ByteArray.empty l0 x0)) ∧ w'.cell? (ad1.add (x0).toNat) = some (.string (rdOf ByteArray.empty l1 x0))) (ds := []) #[false, false, false, false, false, false, false, false, false] (by kernel_rfl) rfl rfl ⟨(pc_ HB.out hw0), (pc_ HB.out hw1)⟩ (fun hHeld => ?_); refine with_tabW impl_ClashFirst.tab4 impl_ClashFirst.bits4 (fun HT HW_ => ?_)
       generalize wc.drew = w3 at BK0 HB hx0 hx1 hHeld ⊢
       refine qP_ 0 19 9 1 ?_
       refine qP_ 1 20 9 3 ?_
       refine qP_ 2 21 9 7 ?_
       refine qP_ 4 23 9 23 ?_
       refine qP_ 5 24 9 55 ?_
       refine qP_ 6 25 9 119 ?_
       refine qT_ 3 22 9 127 ?_
       refine qT_ 7 26 9 255 ?_
       refine qP_ 8 27 9 511 ?_
       refine done_ (done_of HT.out (by kernel_rfl)) ?_
       try go_wp2
       go_roundg kj0
       case measure => have := HK1.out; have := HJ3.out; omega
       case rel => exact ⟨(wrap64 (x0 + 1)), (x1), (x2), rl_, H', ⟨by have := HK1.out; have := HJ3.out; omega⟩, ⟨blkU_ BK0.out⟩, ⟨bel_⟩⟩
      ·rw [if_neg c10] at H
       have c12 := beq_eq_false_iff_ne.mpr c10
       have c13 := bne_iff_ne.mpr c10
       simp only [Option.some.injEq, Prod.mk.injEq] at H
       obtain ⟨rfl, rfl, rfl⟩ := H
       try go_wp2
       replace BK0 := a_ (blk_drew BK0.out)
       replace HB := a_ (below_drew1 HB.out)
       have p0 : 0 ≤ (x0 : Int) := ofd_
       have q0 : x0 < (l0.length : Int) := ofd_
       obtain ⟨ad0, e0, hx0⟩ := Kd.at_string HR0.out x0 p0 q0
       have hw0 := hx0
       cases e0
       replace hx0 := pc_ HB.out hx0
       replace p0 := eq_true p0
       replace q0 := eq_true q0
       have p1 : 0 ≤ (x0 : Int) := ofd_
       have q1 : x0 < (l1.length : Int) := ofd_
       obtain ⟨ad1, e1, hx1⟩ := Kd.at_string HR1.out x0 p1 q1
       have hw1 := hx1
       cases e1
       replace hx1 := pc_ HB.out hx1
       replace p1 := eq_true p1
       replace q1 := eq_true q1
       refine start_ (n := 9) (S := fun w' => w'.cell? (ad0.add (x0).toNat) = some (.string (rdOf ByteArray.empty l0 x0)) ∧ w'.cell? (ad1.add (x0).toNat) = some (.string (rdOf ByteArray.empty l1 x0))) (ds := []) #[false, false, false, false, false, false, false, false, false] (by kernel_rfl) rfl rfl ⟨(pc_ HB.out hw0), (pc_ HB.out hw1)⟩ (fun hHeld => ?_); refine with_tabW impl_ClashFirst.tab4 impl_ClashFirst.bits4 (fun HT HW_ => ?_)
       generalize wc.drew = w2 at BK0 HB hx0 hx1 hHeld ⊢
       refine qP_ 0 19 9 1 ?_
       refine qP_ 1 20 9 3 ?_
       refine qP_ 2 21 9 7 ?_
       refine qP_ 4 23 9 23 ?_
       refine qP_ 5 24 9 55 ?_
       refine qP_ 6 25 9 119 ?_
       refine qT_ 3 22 9 127 ?_
       refine qT_ 7 26 9 255 ?_
       refine qP_ 8 27 9 511 ?_
       refine done_ (done_of HT.out (by kernel_rfl)) ?_
       try go_wp2
       replace BK0 := a_ (blk_drew BK0.out)
       replace HB := a_ (below_drew1 HB.out)
       have p2 : 0 ≤ (x0 : Int) := ofd_
       have q2 : x0 < (l0.length : Int) := ofd_
       obtain ⟨ad2, e2, hx2⟩ := Kd.at_string HR0.out x0 p2 q2
       have hw2 := hx2
       obtain rfl : ad0 = ad2 := (by injection e2)
       replace hx2 := pc_ HB.out hx2
       replace p2 := eq_true p2
       replace q2 := eq_true q2
       have p3 : 0 ≤ (x0 : Int) := ofd_
       have q3 : x0 < (l1.length : Int) := ofd_
       obtain ⟨ad3, e3, hx3⟩ := Kd.at_string HR1.out x0 p3 q3
       have hw3 := hx3
       obtain rfl : ad1 = ad3 := (by injection e3)
       replace hx3 := pc_ HB.out hx3
       replace p3 := eq_true p3
       replace q3 := eq_true q3
       refine start_ (n := 11) (S := fun w' => w'.cell? (ad0.add (x0).toNat) = some (.string (rdOf ByteArray.empty l0 x0)) ∧ w'.cell? (ad1.add (x0).toNat) = some (.string (rdOf ByteArray.empty l1 x0))) (ds := []) #[false, false, false, false, false, false, false, false, false, false, false] (by kernel_rfl) rfl rfl ⟨(pc_ HB.out hw2), (pc_ HB.out hw3)⟩ (fun hHeld => ?_); refine with_tabW impl_ClashFirst.tab5 impl_ClashFirst.bits5 (fun HT HW_ => ?_)
       generalize w2.drew = w1 at BK0 HB hx2 hx3 hHeld ⊢
       refine qP_ 0 28 11 1 ?_
       refine qP_ 1 29 11 3 ?_
       refine qP_ 2 30 11 7 ?_
       refine qP_ 4 32 11 23 ?_
       refine qP_ 5 33 11 55 ?_
       refine qP_ 6 34 11 119 ?_
       refine qT_ 3 31 11 127 ?_
       refine qT_ 7 35 11 255 ?_
       refine qP_ 8 36 11 511 ?_
       refine oneP_ 9 none (b_ 11 1023) HT (fun K hK => ?_)
       have hs0 : w1.cell? ⟨gb0, 0, none⟩ = some (.string x1) := (blk_cell BK0.out 0).trans rfl
       have hfs14 := blk_frozen BK0.out 0
       have hs1 : w1.cell? ⟨gb0, 1, none⟩ = some (.string x2) := (blk_cell BK0.out 1).trans rfl
       have hfs15 := blk_frozen BK0.out 1
       refine skip_ (w1 := ?_) (by rfl) rfl ?_ ?_
       rotate_left
       ·go_simp
        rfl
       refine hK.out _ _ ⟨(cf2_ (nw_ hw2 GW0.out) hHeld.1), (cf2_ (nw_ hw3 GW0.out) hHeld.2)⟩ (fun hHeld => ?_)
       clear hK K
       refine qP_ 10 5 11 2047 ?_
       refine done_ (done_of HT.out (by kernel_rfl)) ?_
       try go_wp2
       refine bodyPost_ret (results_ct rfl _ _ gb0 46 #[.string (rdOf ByteArray.empty l0 x0), .string (rdOf ByteArray.empty l1 x0)] (0, 0) _ rfl (blkF_ BK0.out) Try.underlying46 rfl (by kernel_rfl)) rfl ?_
       exact ⟨rfl_, bel_⟩
     ·replace c6 := Bool.eq_false_iff.mpr c6
      subst c6
      rw [if_neg (show ¬ (false = true) by decide)] at H
      simp only [Option.some.injEq, Prod.mk.injEq] at H
      obtain ⟨rfl, rfl, rfl⟩ := H
      obtain ⟨z0, z1, f0, f1⟩ := cz2_ BK0.out
      go_wp2
      refine bodyPost_ret (results_ct rfl _ _ gb0 46 #[.string (⟨#[]⟩ : ByteArray), .string (⟨#[]⟩ : ByteArray)] (0, 0) _ rfl (blkF_ BK0.out) Try.underlying46 rfl (by kernel_rfl)) rfl ?_
      exact ⟨rfl_, bel_⟩
end
end
end Go.Proofs.Ytflckegggopdnaa.B
