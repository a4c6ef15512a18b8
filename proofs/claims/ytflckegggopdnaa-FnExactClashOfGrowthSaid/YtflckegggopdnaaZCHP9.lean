/- Texts that this claim's law leans on, without what nothing names. What each says stands at its theorems; conditions stand in them. (Put together by the session's program shake.py; Lean checks it.) -/
import Derived.Test.YtflckegggopdnaaZCHP0
import Derived.Test.YtflckegggopdnaaZCHGSpecHash1
import Derived.Test.YtflckegggopdnaaZCHP2
namespace Go.Proofs.Ytflckegggopdnaa.B
section
open Go.RowKit Go.Proofs.YtflckegggopdnaaW.PrintWords Go.Proofs.YtflckegggopdnaaW.PrintLast Go.Proofs.YtflckegggopdnaaW.PrintMore
attribute [local go_sem] max2_int min2_int max_two min_two max_three min_three max_four min_four
set_option linter.unusedVariables false
set_option maxHeartbeats 8000000
set_option maxRecDepth 100000
set_option linter.unusedSimpArgs false
section
def spec_HashBytes.f (k : Nat) (a0_0 a0_1 : Int) (a0_2 a0_3 : Int) : Option (ByteArray) := (spec_l1Bytes.f k a0_0).bind fun t154 => ((spec_l1Bytes.f k a0_1).bind fun t155 => (if t154.size + t155.size ≤ 9223372036854775807 then ((spec_l1Bytes.f k a0_2).bind fun t156 => (if (t154 ++ t155).size + t156.size ≤ 9223372036854775807 then ((spec_l1Bytes.f k a0_3).bind fun t157 => (if ((t154 ++ t155) ++ t156).size + t157.size ≤ 9223372036854775807 then (some (((t154 ++ t155) ++ t156) ++ t157)) else (none))) else (none))) else (none)))
def spec_HashBytes.T1 : Bool × List (List Nat × List Nat) := (true, [([], []), ([0], [0]), ([1], [1]), ([], []), ([3], [3]), ([4, 2], [4]), ([2, 5], [2, 5]), ([], []), ([7], [7]), ([8, 5], [8]), ([6, 9], [6, 9]), ([], []), ([11], [11]), ([12, 9], [12]), ([10, 13], [10, 13]), ([14, 13, 0, 1, 2, 3, 4, 5, 6, 7, 8, 9, 10, 11, 12, 13, 14], [14])])
def spec_HashBytes.B1 : List Nat := [0, 1, 3, 0, 8, 31, 63, 0, 128, 447, 1023, 0, 2048, 7103, 16383, 32767]
theorem spec_HashBytes.tab1 : rtab .any (opsOf Try.f122 1) = spec_HashBytes.T1 := by kernel_rfl
theorem spec_HashBytes.bits1 : waitsOk spec_HashBytes.T1.2 spec_HashBytes.B1 = true := by kernel_rfl
theorem spec_HashBytes.calls (k : Nat) (a0_0 a0_1 : Int) (a0_2 a0_3 : Int) (r : ByteArray) (w : World) (h : spec_HashBytes.f k a0_0 a0_1 a0_2 a0_3 = some r) :
  Calls Try.prog 122 #[.agg #[.int .u64 a0_0, .int .u64 a0_1, .int .u64 a0_2, .int .u64 a0_3]] w fun e w' => e = .returned (.string r) ∧ Below w.heap.size w w' := by
 have hu29 := Try.underlying29
 have HB := a_ (Below.refl w.heap.size w)
 have H := h
 unfold spec_HashBytes.f at H
 clear h
 obtain ⟨t154, A2, H⟩ := bnd_ H
 obtain ⟨t155, A3, H⟩ := bnd_ H
 by_cases c4 : t154.size + t155.size ≤ 9223372036854775807
 ·rw [if_pos c4] at H
  have c4b0 := eq_true c4
  have c4b1 := decide_eq_true c4
  try have c4b2 : (9223372036854775807 < t154.size + t155.size) = False := eq_false (Nat.not_lt.2 c4)
  obtain ⟨t156, A5, H⟩ := bnd_ H
  by_cases c6 : (t154 ++ t155).size + t156.size ≤ 9223372036854775807
  ·rw [if_pos c6] at H
   have c6b0 := eq_true c6
   have c6b1 := decide_eq_true c6
   try (have c6b1n := c6b1; simp only [ByteArray.size_append, Int.natCast_add] at c6b1n)
   try have c6b2 : (9223372036854775807 < (t154 ++ t155).size + t156.size) = False := eq_false (Nat.not_lt.2 c6)
   obtain ⟨t157, A7, H⟩ := bnd_ H
   by_cases c8 : ((t154 ++ t155) ++ t156).size + t157.size ≤ 9223372036854775807
   ·rw [if_pos c8] at H
    have c8b0 := eq_true c8
    have c8b1 := decide_eq_true c8
    try (have c8b1n := c8b1; simp only [ByteArray.size_append, Int.natCast_add] at c8b1n)
    try have c8b2 : (9223372036854775807 < ((t154 ++ t155) ++ t156).size + t157.size) = False := eq_false (Nat.not_lt.2 c8)
    obtain rfl := Option.some.inj H
    go_enter Try.func122, Try.ntmps122
    try go_wp2_with (first | ((with_reducible refine gate_dst (N := 1) rfl ?_); refine boxE_ (cs := #[.int .u64 a0_0, .int .u64 a0_1, .int .u64 a0_2, .int .u64 a0_3]) (t := 29) ?_; intro gb153 hg w9 hbox hb; have BK153 := a_ (hbox); have GW153 := sizeB_ hg; replace HB := stepB_ hb; clear hb hbox hg))
    replace BK153 := a_ (blk_drew BK153.out)
    replace HB := a_ (below_drew1 HB.out)
    refine start_ (n := 16) (S := fun w' => hd4_ w' gb153 (.int .u64 a0_0) (.int .u64 a0_1) (.int .u64 a0_2) (.int .u64 a0_3)) (ds := []) #[false, false, false, false, false, false, false, false, false, false, false, false, false, false, false, false] (by kernel_rfl) rfl rfl (hc4_ BK153.out) (fun hHeld => ?_); refine with_tabW spec_HashBytes.tab1 spec_HashBytes.bits1 (fun HT HW_ => ?_)
    generalize w9.drew = w10 at BK153 HB hHeld ⊢
    refine pureZ_ 0 (some 3) (b_ 16 1) HT ?_
    refine pureZ_ 3 (some 6) (b_ 16 9) HT ?_
    refine pureZ_ 7 (some 10) (b_ 16 137) HT ?_
    refine pureZ_ 11 (some 14) (b_ 16 2185) HT ?_
    refine takeP_ 1 (some 4) (b_ 16 2187) HT HW_ hHeld ?_
    refine takeP_ 4 (some 7) (b_ 16 2203) HT HW_ hHeld ?_
    refine takeP_ 8 (some 11) (b_ 16 2459) HT HW_ hHeld ?_
    refine takeP_ 12 (some 15) (b_ 16 6555) HT HW_ hHeld ?_
    refine oneP_ 2 (some 5) (b_ 16 6559) HT (fun K hK => ?_)
    refine goN_ Try.func116 #[.int .u64 a0_0] ?_
    with_reducible refine (spec_l1Bytes.calls k a0_0 t154 _ A2.out).mono ?_
    rintro e w11 ⟨rfl, hb⟩
    refine ⟨_, rfl, ?_⟩
    replace BK153 := bb_ BK153.out hb
    replace HB := stepB_ hb
    (try clear hb)
    refine hK.out _ _ (hc4_ BK153.out) (fun hHeld => ?_)
    clear hK K
    refine normP_ (some 5) ?_
    refine oneP_ 5 (some 8) (b_ 16 6591) HT (fun K hK => ?_)
    refine goN_ Try.func116 #[.int .u64 a0_1] ?_
    with_reducible refine (spec_l1Bytes.calls k a0_1 t155 _ A3.out).mono ?_
    rintro e w12 ⟨rfl, hb⟩
    refine ⟨_, rfl, ?_⟩
    replace BK153 := bb_ BK153.out hb
    replace HB := stepB_ hb
    (try clear hb)
    refine hK.out _ _ (hc4_ BK153.out) (fun hHeld => ?_)
    clear hK K
    refine normP_ (some 8) ?_
    refine pureZ_ 6 (some 9) (b_ 16 6655) HT ?_
    refine oneP_ 9 (some 12) (b_ 16 7167) HT (fun K hK => ?_)
    refine goN_ Try.func116 #[.int .u64 a0_2] ?_
    with_reducible refine (spec_l1Bytes.calls k a0_2 t156 _ A5.out).mono ?_
    rintro e w13 ⟨rfl, hb⟩
    refine ⟨_, rfl, ?_⟩
    replace BK153 := bb_ BK153.out hb
    replace HB := stepB_ hb
    (try clear hb)
    refine hK.out _ _ (hc4_ BK153.out) (fun hHeld => ?_)
    clear hK K
    refine normP_ (some 12) ?_
    refine pureZ_ 10 (some 13) (b_ 16 8191) HT ?_
    refine oneP_ 13 (some 16) (b_ 16 16383) HT (fun K hK => ?_)
    refine goN_ Try.func116 #[.int .u64 a0_3] ?_
    with_reducible refine (spec_l1Bytes.calls k a0_3 t157 _ A7.out).mono ?_
    rintro e w14 ⟨rfl, hb⟩
    refine ⟨_, rfl, ?_⟩
    replace BK153 := bb_ BK153.out hb
    replace HB := stepB_ hb
    (try clear hb)
    refine hK.out _ _ (hc4_ BK153.out) (fun hHeld => ?_)
    clear hK K
    refine normP_ (some 16) ?_
    refine pureZ_ 14 (some 17) (b_ 16 32767) HT ?_
    refine pureZ_ 15 (some 2) (b_ 16 65535) HT ?_
    refine done_ (done_of HT.out (by kernel_rfl)) ?_
    try go_wp2
    go_ret
    exact ⟨rfl_, bel_⟩
   ·rw [if_neg c8] at H
    exact absurd H (by simp)
  ·rw [if_neg c6] at H
   exact absurd H (by simp)
 ·rw [if_neg c4] at H
  exact absurd H (by simp)
end
section
def spec_l1PairText.f (k : Nat) (a0_0 a0_1 : Int) (a0_2 a0_3 : Int) (a1_0 a1_1 : Int) (a1_2 a1_3 : Int) : Option (ByteArray) := (some (([1] : List Int) : List Int)).bind fun y160 => ((spec_HashBytes.f k a0_0 a0_1 a0_2 a0_3).bind fun t163 => (if (strOfNums y160).size + t163.size ≤ 9223372036854775807 then ((spec_HashBytes.f k a1_0 a1_1 a1_2 a1_3).bind fun t164 => (if ((strOfNums y160) ++ t163).size + t164.size ≤ 9223372036854775807 then (some (((strOfNums y160) ++ t163) ++ t164)) else (none))) else (none)))
def spec_l1PairText.T1 : Bool × List (List Nat × List Nat) := (true, [([], []), ([0], [0]), ([], []), ([2], [2]), ([1, 3], [1, 3]), ([], []), ([5, 3], [5]), ([4, 6], [4, 6]), ([7, 6, 0, 1, 2, 3, 4, 5, 6, 7], [7])])
def spec_l1PairText.B1 : List Nat := [0, 1, 0, 4, 15, 0, 44, 127, 255]
theorem spec_l1PairText.tab1 : rtab .any (opsOf Try.f90 1) = spec_l1PairText.T1 := by kernel_rfl
theorem spec_l1PairText.bits1 : waitsOk spec_l1PairText.T1.2 spec_l1PairText.B1 = true := by kernel_rfl
theorem spec_l1PairText.calls (k : Nat) (a0_0 a0_1 : Int) (a0_2 a0_3 : Int) (a1_0 a1_1 : Int) (a1_2 a1_3 : Int) (r : ByteArray) (w : World) (h : spec_l1PairText.f k a0_0 a0_1 a0_2 a0_3 a1_0 a1_1 a1_2 a1_3 = some r) :
  Calls Try.prog 90 #[.agg #[.int .u64 a0_0, .int .u64 a0_1, .int .u64 a0_2, .int .u64 a0_3], .agg #[.int .u64 a1_0, .int .u64 a1_1, .int .u64 a1_2, .int .u64 a1_3]] w fun e w' => e = .returned (.string r) ∧ Below w.heap.size w w' := by
 have hu29 := Try.underlying29
 have HB := a_ (Below.refl w.heap.size w)
 have H := h
 unfold spec_l1PairText.f at H
 clear h
 obtain ⟨y160, hy160⟩ : ∃ y_ : List Int, y_ = (([1] : List Int)) := ⟨_, rfl⟩
 replace H : ((spec_HashBytes.f k a0_0 a0_1 a0_2 a0_3).bind fun t163 => (if (strOfNums y160).size + t163.size ≤ 9223372036854775807 then ((spec_HashBytes.f k a1_0 a1_1 a1_2 a1_3).bind fun t164 => (if ((strOfNums y160) ++ t163).size + t164.size ≤ 9223372036854775807 then (some (((strOfNums y160) ++ t163) ++ t164)) else (none))) else (none))) = some r := rpl_ hy160 H
 have Ny160 := Aside0.mk hy160
 clear hy160
 obtain ⟨t163, A3, H⟩ := bnd_ H
 by_cases c4 : (strOfNums y160).size + t163.size ≤ 9223372036854775807
 ·rw [if_pos c4] at H
  have c4b0 := eq_true c4
  have c4b1 := decide_eq_true c4
  try have c4b2 : (9223372036854775807 < (strOfNums y160).size + t163.size) = False := eq_false (Nat.not_lt.2 c4)
  obtain ⟨t164, A5, H⟩ := bnd_ H
  by_cases c6 : ((strOfNums y160) ++ t163).size + t164.size ≤ 9223372036854775807
  ·rw [if_pos c6] at H
   have c6b0 := eq_true c6
   have c6b1 := decide_eq_true c6
   try (have c6b1n := c6b1; simp only [ByteArray.size_append, Int.natCast_add] at c6b1n)
   try have c6b2 : (9223372036854775807 < ((strOfNums y160) ++ t163).size + t164.size) = False := eq_false (Nat.not_lt.2 c6)
   obtain rfl := Option.some.inj H
   go_enter Try.func90, Try.ntmps90
   try go_wp2_with (first | ((with_reducible refine gate_dst (N := 2) rfl ?_); refine boxE_ (cs := #[.int .u64 a0_0, .int .u64 a0_1, .int .u64 a0_2, .int .u64 a0_3]) (t := 29) ?_; intro gb158 hg w7 hbox hb; have BK158 := a_ (hbox); have GW158 := sizeB_ hg; replace HB := stepB_ hb; clear hb hbox hg) | ((with_reducible refine gate_dst (N := 3) rfl ?_); refine boxE_ (cs := #[.int .u64 a1_0, .int .u64 a1_1, .int .u64 a1_2, .int .u64 a1_3]) (t := 29) ?_; intro gb159 hg w8 hbox hb; have BK159 := a_ (hbox); have GW159 := sizeB_ hg; replace HB := stepB_ hb; obtain ⟨NB158_159, NB159_158⟩ := ne2_ BK158.out hg; replace BK158 := bb_ BK158.out hb; clear hb hbox hg))
   replace BK158 := a_ (blk_drew BK158.out)
   replace BK159 := a_ (blk_drew BK159.out)
   replace HB := a_ (below_drew1 HB.out)
   refine start_ (n := 9) (S := fun w' => hdc4_ w' gb158 (.int .u64 a0_0) (.int .u64 a0_1) (.int .u64 a0_2) (.int .u64 a0_3) (hd4_ w' gb159 (.int .u64 a1_0) (.int .u64 a1_1) (.int .u64 a1_2) (.int .u64 a1_3))) (ds := []) #[false, false, false, false, false, false, false, false, false] (by kernel_rfl) rfl rfl (hcc4_ BK158.out (hc4_ BK159.out)) (fun hHeld => ?_); refine with_tabW spec_l1PairText.tab1 spec_l1PairText.bits1 (fun HT HW_ => ?_)
   generalize w8.drew = w9 at BK158 BK159 HB hHeld ⊢
   refine takeP_ 2 (some 7) (b_ 9 4) HT HW_ hHeld ?_
   refine takeP_ 5 (some 10) (b_ 9 36) HT HW_ hHeld ?_
   refine join_ (σ := Value) 2 (b_ 9 127) (fun s_ => [(5, s_), (6, .string (strOfNums y160)), (8, .string t163), (11, .string t164), (9, .string ((strOfNums y160) ++ t163))]) (fun s_ w' => (hdc4_ w' gb158 (.int .u64 a0_0) (.int .u64 a0_1) (.int .u64 a0_2) (.int .u64 a0_3) (hd4_ w' gb159 (.int .u64 a1_0) (.int .u64 a1_1) (.int .u64 a1_2) (.int .u64 a1_3))) ∧ (Kd.R (Kd.int .u8) 5 w' w.heap.size (fun _ => True) s_ y160) ∧ (w'.heap[gb158]? = some (.cells #[.int .u64 a0_0, .int .u64 a0_1, .int .u64 a0_2, .int .u64 a0_3] 29 (0, 0))) ∧ (w'.heap[gb159]? = some (.cells #[.int .u64 a1_0, .int .u64 a1_1, .int .u64 a1_2, .int .u64 a1_3] 29 (0, 0))) ∧ (Below w.heap.size w w')) ?_ ?_
   rotate_left
   ·intro hJ0_1_3_6
    refine join_ (σ := Value) 3 (b_ 9 63) (fun s_ => [(5, s_), (6, .string (strOfNums y160)), (8, .string t163), (9, .string ((strOfNums y160) ++ t163))]) (fun s_ w' => (hdc4_ w' gb158 (.int .u64 a0_0) (.int .u64 a0_1) (.int .u64 a0_2) (.int .u64 a0_3) (hd4_ w' gb159 (.int .u64 a1_0) (.int .u64 a1_1) (.int .u64 a1_2) (.int .u64 a1_3))) ∧ (Kd.R (Kd.int .u8) 5 w' w.heap.size (fun _ => True) s_ y160) ∧ (w'.heap[gb158]? = some (.cells #[.int .u64 a0_0, .int .u64 a0_1, .int .u64 a0_2, .int .u64 a0_3] 29 (0, 0))) ∧ (w'.heap[gb159]? = some (.cells #[.int .u64 a1_0, .int .u64 a1_1, .int .u64 a1_2, .int .u64 a1_3] 29 (0, 0))) ∧ (Below w.heap.size w w')) ?_ ?_
    rotate_left
    ·intro hJ0_1_3
     refine join_ (σ := Value) 4 (b_ 9 109) (fun s_ => [(5, s_), (8, .string t163), (11, .string t164)]) (fun s_ w' => (hdc4_ w' gb158 (.int .u64 a0_0) (.int .u64 a0_1) (.int .u64 a0_2) (.int .u64 a0_3) (hd4_ w' gb159 (.int .u64 a1_0) (.int .u64 a1_1) (.int .u64 a1_2) (.int .u64 a1_3))) ∧ (Kd.R (Kd.int .u8) 5 w' w.heap.size (fun _ => True) s_ y160) ∧ (w'.heap[gb158]? = some (.cells #[.int .u64 a0_0, .int .u64 a0_1, .int .u64 a0_2, .int .u64 a0_3] 29 (0, 0))) ∧ (w'.heap[gb159]? = some (.cells #[.int .u64 a1_0, .int .u64 a1_1, .int .u64 a1_2, .int .u64 a1_3] 29 (0, 0))) ∧ (Below w.heap.size w w')) ?_ ?_
     rotate_left
     ·intro hJ0_3_6
      refine join_ (σ := Value) 5 (b_ 9 39) (fun s_ => [(5, s_), (6, .string (strOfNums y160))]) (fun s_ w' => (hdc4_ w' gb158 (.int .u64 a0_0) (.int .u64 a0_1) (.int .u64 a0_2) (.int .u64 a0_3) (hd4_ w' gb159 (.int .u64 a1_0) (.int .u64 a1_1) (.int .u64 a1_2) (.int .u64 a1_3))) ∧ (Kd.R (Kd.int .u8) 5 w' w.heap.size (fun _ => True) s_ y160) ∧ (w'.heap[gb158]? = some (.cells #[.int .u64 a0_0, .int .u64 a0_1, .int .u64 a0_2, .int .u64 a0_3] 29 (0, 0))) ∧ (w'.heap[gb159]? = some (.cells #[.int .u64 a1_0, .int .u64 a1_1, .int .u64 a1_2, .int .u64 a1_3] 29 (0, 0))) ∧ (Below w.heap.size w w')) ?_ ?_
      rotate_left
      ·intro hJ0_1
       refine join_ (σ := Value) 5 (b_ 9 45) (fun s_ => [(5, s_), (8, .string t163)]) (fun s_ w' => (hdc4_ w' gb158 (.int .u64 a0_0) (.int .u64 a0_1) (.int .u64 a0_2) (.int .u64 a0_3) (hd4_ w' gb159 (.int .u64 a1_0) (.int .u64 a1_1) (.int .u64 a1_2) (.int .u64 a1_3))) ∧ (Kd.R (Kd.int .u8) 5 w' w.heap.size (fun _ => True) s_ y160) ∧ (w'.heap[gb158]? = some (.cells #[.int .u64 a0_0, .int .u64 a0_1, .int .u64 a0_2, .int .u64 a0_3] 29 (0, 0))) ∧ (w'.heap[gb159]? = some (.cells #[.int .u64 a1_0, .int .u64 a1_1, .int .u64 a1_2, .int .u64 a1_3] 29 (0, 0))) ∧ (Below w.heap.size w w')) ?_ ?_
       rotate_left
       ·intro hJ0_3
        refine join_ (σ := Unit) 5 (b_ 9 108) (fun s_ => [(8, .string t163), (11, .string t164)]) (fun s_ w' => (hdc4_ w' gb158 (.int .u64 a0_0) (.int .u64 a0_1) (.int .u64 a0_2) (.int .u64 a0_3) (hd4_ w' gb159 (.int .u64 a1_0) (.int .u64 a1_1) (.int .u64 a1_2) (.int .u64 a1_3))) ∧ (w'.heap[gb158]? = some (.cells #[.int .u64 a0_0, .int .u64 a0_1, .int .u64 a0_2, .int .u64 a0_3] 29 (0, 0))) ∧ (w'.heap[gb159]? = some (.cells #[.int .u64 a1_0, .int .u64 a1_1, .int .u64 a1_2, .int .u64 a1_3] 29 (0, 0))) ∧ (Below w.heap.size w w')) ?_ ?_
        rotate_left
        ·intro hJ3_6
         refine join_ (σ := Value) 6 (b_ 9 37) (fun s_ => [(5, s_)]) (fun s_ w' => (hdc4_ w' gb158 (.int .u64 a0_0) (.int .u64 a0_1) (.int .u64 a0_2) (.int .u64 a0_3) (hd4_ w' gb159 (.int .u64 a1_0) (.int .u64 a1_1) (.int .u64 a1_2) (.int .u64 a1_3))) ∧ (Kd.R (Kd.int .u8) 5 w' w.heap.size (fun _ => True) s_ y160) ∧ (w'.heap[gb158]? = some (.cells #[.int .u64 a0_0, .int .u64 a0_1, .int .u64 a0_2, .int .u64 a0_3] 29 (0, 0))) ∧ (w'.heap[gb159]? = some (.cells #[.int .u64 a1_0, .int .u64 a1_1, .int .u64 a1_2, .int .u64 a1_3] 29 (0, 0))) ∧ (Below w.heap.size w w')) ?_ ?_
         rotate_left
         ·intro hJ0
          refine join_ (σ := Unit) 6 (b_ 9 44) (fun s_ => [(8, .string t163)]) (fun s_ w' => (hdc4_ w' gb158 (.int .u64 a0_0) (.int .u64 a0_1) (.int .u64 a0_2) (.int .u64 a0_3) (hd4_ w' gb159 (.int .u64 a1_0) (.int .u64 a1_1) (.int .u64 a1_2) (.int .u64 a1_3))) ∧ (w'.heap[gb158]? = some (.cells #[.int .u64 a0_0, .int .u64 a0_1, .int .u64 a0_2, .int .u64 a0_3] 29 (0, 0))) ∧ (w'.heap[gb159]? = some (.cells #[.int .u64 a1_0, .int .u64 a1_1, .int .u64 a1_2, .int .u64 a1_3] 29 (0, 0))) ∧ (Below w.heap.size w w')) ?_ ?_
          rotate_left
          ·intro hJ3
           refine two_ (i := 0) (j := 3) (Ni := some 5) (Nj := some 8) (b_ 9 37) (b_ 9 44) rfl rfl rfl rfl (two_of HT.out (by kernel_rfl)) (by decide) (by decide) (fun K hK => ?_) (fun K hK => ?_)
           ·skip
            refine Kd.R_lit_step (Kd.int .u8) _ 5 ?hg (N := 5) ?hd (xs := ([1] : List Int)) (inner := [.int .u8 1]) (ok := fun _ => True) (okp := fun _ => True) ?hr ?hp (fun _ hk => hk) trivial (Below.refl _ _) (Nat.le_refl _) (by simp) ?_; (case hd => rfl); (case hg => rfl); (case hr => first | (go_simp; done) | (go_simp; rfl)); (case hp => exact (Reps.one (show Kd.M (Kd.int .u8) _ _ _ 1 [.int .u8 1] from rfl) (Reps.none _ _)))
            intro v161 w10 ho11 hb hg_ hnew_
            clear hg_ hnew_
            (first | rw [← Ny160.out] at ho11 | (simp only [Int.reduceToNat] at ho11; rw [← Ny160.out] at ho11))
            have HO162 := a_ (Kd.R_lower ho11 (below_size bel_))
            replace BK158 := bb_ BK158.out hb
            replace BK159 := bb_ BK159.out hb
            replace HB := stepB_ hb
            clear hb ho11
            refine hK.out _ _ (hcc4_ BK158.out (hc4_ BK159.out)) (fun hHeld => ?_)
            clear hK K
            refine normP_ (some 5) ?_
            exact jn_ (hJ0 (v161) _ ⟨hHeld, (kdU_ HO162.out), (blkU_ BK158.out), (blkU_ BK159.out), bel_⟩)
           ·skip
            refine goN_ Try.func122 #[.agg #[.int .u64 a0_0, .int .u64 a0_1, .int .u64 a0_2, .int .u64 a0_3]] ?_
            with_reducible refine (spec_HashBytes.calls k a0_0 a0_1 a0_2 a0_3 t163 _ A3.out).mono ?_
            rintro e w10 ⟨rfl, hb⟩
            refine ⟨_, rfl, ?_⟩
            replace BK158 := bb_ BK158.out hb
            replace BK159 := bb_ BK159.out hb
            replace HB := stepB_ hb
            (try clear hb); (try clear hk)
            refine hK.out _ _ (hcc4_ BK158.out (hc4_ BK159.out)) (fun hHeld => ?_)
            clear hK K
            refine normP_ (some 8) ?_
            exact jn_ (hJ3 () _ ⟨hHeld, (blkU_ BK158.out), (blkU_ BK159.out), bel_⟩)
          ·skip
           rintro _ w11 ⟨hS_, h0_, h1_, h2_⟩
           have n0_ := a_ h0_
           have n1_ := a_ h1_
           have n2_ := a_ h2_
           clear BK158
           clear BK159
           clear HB
           clear h0_ h1_ h2_
           have BK158 := n0_
           have BK159 := n1_
           have HB := n2_
           clear n0_ n1_ n2_
           have hHeld : hdc4_ w11 gb158 (.int .u64 a0_0) (.int .u64 a0_1) (.int .u64 a0_2) (.int .u64 a0_3) (hd4_ w11 gb159 (.int .u64 a1_0) (.int .u64 a1_1) (.int .u64 a1_2) (.int .u64 a1_3)) := hS_
           refine norm_ (a' := ?_) ?_ ?_
           rotate_left
           ·simp only [putAll, Act.put, List.setIfInBounds_toArray, List.set_cons_zero, List.set_cons_succ]
            rfl
           refine two_ (i := 0) (j := 6) (Ni := some 5) (Nj := some 11) (b_ 9 45) (b_ 9 108) rfl rfl rfl rfl (two_of HT.out (by kernel_rfl)) (by decide) (by decide) (fun K hK => ?_) (fun K hK => ?_)
           ·skip
            refine Kd.R_lit_step (Kd.int .u8) _ 5 ?hg (N := 5) ?hd (xs := ([1] : List Int)) (inner := [.int .u8 1]) (ok := fun _ => True) (okp := fun _ => True) ?hr ?hp (fun _ hk => hk) trivial (Below.refl _ _) (Nat.le_refl _) (by simp) ?_; (case hd => rfl); (case hg => rfl); (case hr => first | (go_simp; done) | (go_simp; rfl)); (case hp => exact (Reps.one (show Kd.M (Kd.int .u8) _ _ _ 1 [.int .u8 1] from rfl) (Reps.none _ _)))
            intro v161 w12 ho13 hb hg_ hnew_
            clear hg_ hnew_
            (first | rw [← Ny160.out] at ho13 | (simp only [Int.reduceToNat] at ho13; rw [← Ny160.out] at ho13))
            have HO162 := a_ (Kd.R_lower ho13 (below_size bel_))
            replace BK158 := bb_ BK158.out hb
            replace BK159 := bb_ BK159.out hb
            replace HB := stepB_ hb
            clear hb ho13
            refine hK.out _ _ (hcc4_ BK158.out (hc4_ BK159.out)) (fun hHeld => ?_)
            clear hK K
            refine normP_ (some 5) ?_
            exact jn_ (hJ0_3 (v161) _ ⟨hHeld, (kdU_ HO162.out), (blkU_ BK158.out), (blkU_ BK159.out), bel_⟩)
           ·skip
            refine goN_ Try.func122 #[.agg #[.int .u64 a1_0, .int .u64 a1_1, .int .u64 a1_2, .int .u64 a1_3]] ?_
            with_reducible refine (spec_HashBytes.calls k a1_0 a1_1 a1_2 a1_3 t164 _ A5.out).mono ?_
            rintro e w12 ⟨rfl, hb⟩
            refine ⟨_, rfl, ?_⟩
            replace BK158 := bb_ BK158.out hb
            replace BK159 := bb_ BK159.out hb
            replace HB := stepB_ hb
            (try clear hb); (try clear hk)
            refine hK.out _ _ (hcc4_ BK158.out (hc4_ BK159.out)) (fun hHeld => ?_)
            clear hK K
            refine normP_ (some 11) ?_
            exact jn_ (hJ3_6 () _ ⟨hHeld, (blkU_ BK158.out), (blkU_ BK159.out), bel_⟩)
         ·skip
          rintro v161 w12 ⟨hS_, h0_, h1_, h2_, h3_⟩
          have n0_ := a_ h0_
          have n1_ := a_ h1_
          have n2_ := a_ h2_
          have n3_ := a_ h3_
          clear BK158
          clear BK159
          clear HB
          clear h0_ h1_ h2_ h3_
          have HO162 := n0_
          have BK158 := n1_
          have BK159 := n2_
          have HB := n3_
          clear n0_ n1_ n2_ n3_
          have hHeld : hdc4_ w12 gb158 (.int .u64 a0_0) (.int .u64 a0_1) (.int .u64 a0_2) (.int .u64 a0_3) (hd4_ w12 gb159 (.int .u64 a1_0) (.int .u64 a1_1) (.int .u64 a1_2) (.int .u64 a1_3)) := hS_
          refine norm_ (a' := ?_) ?_ ?_
          rotate_left
          ·simp only [putAll, Act.put, List.setIfInBounds_toArray, List.set_cons_zero, List.set_cons_succ]
           rfl
          refine two_ (i := 1) (j := 3) (Ni := some 6) (Nj := some 8) (b_ 9 39) (b_ 9 45) rfl rfl rfl rfl (two_of HT.out (by kernel_rfl)) (by decide) (by decide) (fun K hK => ?_) (fun K hK => ?_)
          ·skip
           have hcv13 := own_string (P := Try.prog) Try.underlying60 Try.underlying5 Try.underlying9 (Kd.own_of_R HO162.out)
           refine value_ (w1 := ?_) (v := ?_) (by rfl) rfl ?_ ?_
           rotate_left 2
           ·go_simp
            constructor
            ·rfl
            ·rfl
           clear hcv13
           refine hK.out _ _ (hcc4_ BK158.out (hc4_ BK159.out)) (fun hHeld => ?_)
           clear hK K
           refine normP_ (some 6) ?_
           exact jn_ (hJ0_1 (v161) _ ⟨hHeld, (kdU_ HO162.out), (blkU_ BK158.out), (blkU_ BK159.out), bel_⟩)
          ·skip
           refine goN_ Try.func122 #[.agg #[.int .u64 a0_0, .int .u64 a0_1, .int .u64 a0_2, .int .u64 a0_3]] ?_
           with_reducible refine (spec_HashBytes.calls k a0_0 a0_1 a0_2 a0_3 t163 _ A3.out).mono ?_
           rintro e w13 ⟨rfl, hb⟩
           refine ⟨_, rfl, ?_⟩
           replace HO162 := rb_ HO162.out hb
           replace BK158 := bb_ BK158.out hb
           replace BK159 := bb_ BK159.out hb
           replace HB := stepB_ hb
           (try clear hb); (try clear hk)
           refine hK.out _ _ (hcc4_ BK158.out (hc4_ BK159.out)) (fun hHeld => ?_)
           clear hK K
           refine normP_ (some 8) ?_
           exact jn_ (hJ0_3 (v161) _ ⟨hHeld, (kdU_ HO162.out), (blkU_ BK158.out), (blkU_ BK159.out), bel_⟩)
        ·skip
         rintro _ w12 ⟨hS_, h0_, h1_, h2_⟩
         have n0_ := a_ h0_
         have n1_ := a_ h1_
         have n2_ := a_ h2_
         clear BK158
         clear BK159
         clear HB
         clear h0_ h1_ h2_
         have BK158 := n0_
         have BK159 := n1_
         have HB := n2_
         clear n0_ n1_ n2_
         have hHeld : hdc4_ w12 gb158 (.int .u64 a0_0) (.int .u64 a0_1) (.int .u64 a0_2) (.int .u64 a0_3) (hd4_ w12 gb159 (.int .u64 a1_0) (.int .u64 a1_1) (.int .u64 a1_2) (.int .u64 a1_3)) := hS_
         refine norm_ (a' := ?_) ?_ ?_
         rotate_left
         ·simp only [putAll, Act.put, List.setIfInBounds_toArray, List.set_cons_zero, List.set_cons_succ]
          rfl
         refine oneP_ 0 (some 5) (b_ 9 109) HT (fun K hK => ?_)
         refine Kd.R_lit_step (Kd.int .u8) _ 5 ?hg (N := 5) ?hd (xs := ([1] : List Int)) (inner := [.int .u8 1]) (ok := fun _ => True) (okp := fun _ => True) ?hr ?hp (fun _ hk => hk) trivial (Below.refl _ _) (Nat.le_refl _) (by simp) ?_; (case hd => rfl); (case hg => rfl); (case hr => first | (go_simp; done) | (go_simp; rfl)); (case hp => exact (Reps.one (show Kd.M (Kd.int .u8) _ _ _ 1 [.int .u8 1] from rfl) (Reps.none _ _)))
         intro v161 w13 ho14 hb hg_ hnew_
         clear hg_ hnew_
         (first | rw [← Ny160.out] at ho14 | (simp only [Int.reduceToNat] at ho14; rw [← Ny160.out] at ho14))
         have HO162 := a_ (Kd.R_lower ho14 (below_size bel_))
         replace BK158 := bb_ BK158.out hb
         replace BK159 := bb_ BK159.out hb
         replace HB := stepB_ hb
         clear hb ho14
         refine hK.out _ _ (hcc4_ BK158.out (hc4_ BK159.out)) (fun hHeld => ?_)
         clear hK K
         refine normP_ (some 5) ?_
         exact jn_ (hJ0_3_6 (v161) _ ⟨hHeld, (kdU_ HO162.out), (blkU_ BK158.out), (blkU_ BK159.out), bel_⟩)
       ·skip
        rintro v161 w13 ⟨hS_, h0_, h1_, h2_, h3_⟩
        have n0_ := a_ h0_
        have n1_ := a_ h1_
        have n2_ := a_ h2_
        have n3_ := a_ h3_
        clear BK158
        clear BK159
        clear HB
        clear h0_ h1_ h2_ h3_
        have HO162 := n0_
        have BK158 := n1_
        have BK159 := n2_
        have HB := n3_
        clear n0_ n1_ n2_ n3_
        have hHeld : hdc4_ w13 gb158 (.int .u64 a0_0) (.int .u64 a0_1) (.int .u64 a0_2) (.int .u64 a0_3) (hd4_ w13 gb159 (.int .u64 a1_0) (.int .u64 a1_1) (.int .u64 a1_2) (.int .u64 a1_3)) := hS_
        refine norm_ (a' := ?_) ?_ ?_
        rotate_left
        ·simp only [putAll, Act.put, List.setIfInBounds_toArray, List.set_cons_zero, List.set_cons_succ]
         rfl
        refine two_ (i := 1) (j := 6) (Ni := some 6) (Nj := some 11) (b_ 9 47) (b_ 9 109) rfl rfl rfl rfl (two_of HT.out (by kernel_rfl)) (by decide) (by decide) (fun K hK => ?_) (fun K hK => ?_)
        ·skip
         have hcv14 := own_string (P := Try.prog) Try.underlying60 Try.underlying5 Try.underlying9 (Kd.own_of_R HO162.out)
         refine value_ (w1 := ?_) (v := ?_) (by rfl) rfl ?_ ?_
         rotate_left 2
         ·go_simp
          constructor
          ·rfl
          ·rfl
         clear hcv14
         refine hK.out _ _ (hcc4_ BK158.out (hc4_ BK159.out)) (fun hHeld => ?_)
         clear hK K
         refine normP_ (some 6) ?_
         refine pureZ_ 4 (some 9) (b_ 9 63) HT ?_
         exact jn_ (hJ0_1_3 (v161) _ ⟨hHeld, (kdU_ HO162.out), (blkU_ BK158.out), (blkU_ BK159.out), bel_⟩)
        ·skip
         refine goN_ Try.func122 #[.agg #[.int .u64 a1_0, .int .u64 a1_1, .int .u64 a1_2, .int .u64 a1_3]] ?_
         with_reducible refine (spec_HashBytes.calls k a1_0 a1_1 a1_2 a1_3 t164 _ A5.out).mono ?_
         rintro e w14 ⟨rfl, hb⟩
         refine ⟨_, rfl, ?_⟩
         replace HO162 := rb_ HO162.out hb
         replace BK158 := bb_ BK158.out hb
         replace BK159 := bb_ BK159.out hb
         replace HB := stepB_ hb
         (try clear hb); (try clear hk)
         refine hK.out _ _ (hcc4_ BK158.out (hc4_ BK159.out)) (fun hHeld => ?_)
         clear hK K
         refine normP_ (some 11) ?_
         exact jn_ (hJ0_3_6 (v161) _ ⟨hHeld, (kdU_ HO162.out), (blkU_ BK158.out), (blkU_ BK159.out), bel_⟩)
      ·skip
       rintro v161 w13 ⟨hS_, h0_, h1_, h2_, h3_⟩
       have n0_ := a_ h0_
       have n1_ := a_ h1_
       have n2_ := a_ h2_
       have n3_ := a_ h3_
       clear BK158
       clear BK159
       clear HB
       clear h0_ h1_ h2_ h3_
       have HO162 := n0_
       have BK158 := n1_
       have BK159 := n2_
       have HB := n3_
       clear n0_ n1_ n2_ n3_
       have hHeld : hdc4_ w13 gb158 (.int .u64 a0_0) (.int .u64 a0_1) (.int .u64 a0_2) (.int .u64 a0_3) (hd4_ w13 gb159 (.int .u64 a1_0) (.int .u64 a1_1) (.int .u64 a1_2) (.int .u64 a1_3)) := hS_
       refine norm_ (a' := ?_) ?_ ?_
       rotate_left
       ·simp only [putAll, Act.put, List.setIfInBounds_toArray, List.set_cons_zero, List.set_cons_succ]
        rfl
       refine oneP_ 3 (some 8) (b_ 9 47) HT (fun K hK => ?_)
       refine goN_ Try.func122 #[.agg #[.int .u64 a0_0, .int .u64 a0_1, .int .u64 a0_2, .int .u64 a0_3]] ?_
       with_reducible refine (spec_HashBytes.calls k a0_0 a0_1 a0_2 a0_3 t163 _ A3.out).mono ?_
       rintro e w14 ⟨rfl, hb⟩
       refine ⟨_, rfl, ?_⟩
       replace HO162 := rb_ HO162.out hb
       replace BK158 := bb_ BK158.out hb
       replace BK159 := bb_ BK159.out hb
       replace HB := stepB_ hb
       (try clear hb); (try clear hk)
       refine hK.out _ _ (hcc4_ BK158.out (hc4_ BK159.out)) (fun hHeld => ?_)
       clear hK K
       refine normP_ (some 8) ?_
       refine pureZ_ 4 (some 9) (b_ 9 63) HT ?_
       exact jn_ (hJ0_1_3 (v161) _ ⟨hHeld, (kdU_ HO162.out), (blkU_ BK158.out), (blkU_ BK159.out), bel_⟩)
     ·skip
      rintro v161 w14 ⟨hS_, h0_, h1_, h2_, h3_⟩
      have n0_ := a_ h0_
      have n1_ := a_ h1_
      have n2_ := a_ h2_
      have n3_ := a_ h3_
      clear BK158
      clear BK159
      clear HB
      clear h0_ h1_ h2_ h3_
      have HO162 := n0_
      have BK158 := n1_
      have BK159 := n2_
      have HB := n3_
      clear n0_ n1_ n2_ n3_
      have hHeld : hdc4_ w14 gb158 (.int .u64 a0_0) (.int .u64 a0_1) (.int .u64 a0_2) (.int .u64 a0_3) (hd4_ w14 gb159 (.int .u64 a1_0) (.int .u64 a1_1) (.int .u64 a1_2) (.int .u64 a1_3)) := hS_
      refine norm_ (a' := ?_) ?_ ?_
      rotate_left
      ·simp only [putAll, Act.put, List.setIfInBounds_toArray, List.set_cons_zero, List.set_cons_succ]
       rfl
      refine oneP_ 1 (some 6) (b_ 9 111) HT (fun K hK => ?_)
      have hcv15 := own_string (P := Try.prog) Try.underlying60 Try.underlying5 Try.underlying9 (Kd.own_of_R HO162.out)
      refine value_ (w1 := ?_) (v := ?_) (by rfl) rfl ?_ ?_
      rotate_left 2
      ·go_simp
       constructor
       ·rfl
       ·rfl
      clear hcv15
      refine hK.out _ _ (hcc4_ BK158.out (hc4_ BK159.out)) (fun hHeld => ?_)
      clear hK K
      refine normP_ (some 6) ?_
      refine pureZ_ 4 (some 9) (b_ 9 127) HT ?_
      exact jn_ (hJ0_1_3_6 (v161) _ ⟨hHeld, (kdU_ HO162.out), (blkU_ BK158.out), (blkU_ BK159.out), bel_⟩)
    ·skip
     rintro v161 w14 ⟨hS_, h0_, h1_, h2_, h3_⟩
     have n0_ := a_ h0_
     have n1_ := a_ h1_
     have n2_ := a_ h2_
     have n3_ := a_ h3_
     clear BK158
     clear BK159
     clear HB
     clear h0_ h1_ h2_ h3_
     have HO162 := n0_
     have BK158 := n1_
     have BK159 := n2_
     have HB := n3_
     clear n0_ n1_ n2_ n3_
     have hHeld : hdc4_ w14 gb158 (.int .u64 a0_0) (.int .u64 a0_1) (.int .u64 a0_2) (.int .u64 a0_3) (hd4_ w14 gb159 (.int .u64 a1_0) (.int .u64 a1_1) (.int .u64 a1_2) (.int .u64 a1_3)) := hS_
     refine norm_ (a' := ?_) ?_ ?_
     rotate_left
     ·simp only [putAll, Act.put, List.setIfInBounds_toArray, List.set_cons_zero, List.set_cons_succ]
      rfl
     refine oneP_ 6 (some 11) (b_ 9 127) HT (fun K hK => ?_)
     refine goN_ Try.func122 #[.agg #[.int .u64 a1_0, .int .u64 a1_1, .int .u64 a1_2, .int .u64 a1_3]] ?_
     with_reducible refine (spec_HashBytes.calls k a1_0 a1_1 a1_2 a1_3 t164 _ A5.out).mono ?_
     rintro e w15 ⟨rfl, hb⟩
     refine ⟨_, rfl, ?_⟩
     replace HO162 := rb_ HO162.out hb
     replace BK158 := bb_ BK158.out hb
     replace BK159 := bb_ BK159.out hb
     replace HB := stepB_ hb
     (try clear hb); (try clear hk)
     refine hK.out _ _ (hcc4_ BK158.out (hc4_ BK159.out)) (fun hHeld => ?_)
     clear hK K
     refine normP_ (some 11) ?_
     exact jn_ (hJ0_1_3_6 (v161) _ ⟨hHeld, (kdU_ HO162.out), (blkU_ BK158.out), (blkU_ BK159.out), bel_⟩)
   rintro v161 w15 ⟨hS_, h0_, h1_, h2_, h3_⟩
   have n0_ := a_ h0_
   have n1_ := a_ h1_
   have n2_ := a_ h2_
   have n3_ := a_ h3_
   clear BK158
   clear BK159
   clear HB
   clear h0_ h1_ h2_ h3_
   have HO162 := n0_
   have BK158 := n1_
   have BK159 := n2_
   have HB := n3_
   clear n0_ n1_ n2_ n3_
   have hHeld : hdc4_ w15 gb158 (.int .u64 a0_0) (.int .u64 a0_1) (.int .u64 a0_2) (.int .u64 a0_3) (hd4_ w15 gb159 (.int .u64 a1_0) (.int .u64 a1_1) (.int .u64 a1_2) (.int .u64 a1_3)) := hS_
   refine norm_ (a' := ?_) ?_ ?_
   rotate_left
   ·simp only [putAll, Act.put, List.setIfInBounds_toArray, List.set_cons_zero, List.set_cons_succ]
    rfl
   refine pureZ_ 7 (some 12) (b_ 9 255) HT ?_
   refine pureZ_ 8 (some 4) (b_ 9 511) HT ?_
   refine done_ (done_of HT.out (by kernel_rfl)) ?_
   try go_wp2
   go_ret
   exact ⟨rfl_, bel_⟩
  ·rw [if_neg c6] at H
   exact absurd H (by simp)
 ·rw [if_neg c4] at H
  exact absurd H (by simp)
end
section
def spec_HashPair.f (k : Nat) (a0_0 a0_1 : Int) (a0_2 a0_3 : Int) (a1_0 a1_1 : Int) (a1_2 a1_3 : Int) : Option (Int × Int × Int × Int) := (spec_l1PairText.f k a0_0 a0_1 a0_2 a0_3 a1_0 a1_1 a1_2 a1_3).bind fun t168 => ((spec_HashOf.f k t168).bind fun bt169 => (some (bt169.1, bt169.2.1, bt169.2.2.1, bt169.2.2.2)))
theorem spec_HashPair.calls (k : Nat) (a0_0 a0_1 : Int) (a0_2 a0_3 : Int) (a1_0 a1_1 : Int) (a1_2 a1_3 : Int) (r1 r2 : Int) (r3 r4 : Int) (w : World) (h : spec_HashPair.f k a0_0 a0_1 a0_2 a0_3 a1_0 a1_1 a1_2 a1_3 = some (r1, r2, r3, r4)) :
  Calls Try.prog 119 #[.agg #[.int .u64 a0_0, .int .u64 a0_1, .int .u64 a0_2, .int .u64 a0_3], .agg #[.int .u64 a1_0, .int .u64 a1_1, .int .u64 a1_2, .int .u64 a1_3]] w fun e w' => e = .returned (.agg #[.int .u64 r1, .int .u64 r2, .int .u64 r3, .int .u64 r4]) ∧ Below w.heap.size w w' := by
 have hu29 := Try.underlying29
 have HB := a_ (Below.refl w.heap.size w)
 have H := h
 unfold spec_HashPair.f at H
 clear h
 obtain ⟨t168, A3, H⟩ := bnd_ H
 obtain ⟨⟨t169, t170, t171, t172⟩, A4, H⟩ := bnd_ H
 dsimp only at H
 simp only [Option.some.injEq, Prod.mk.injEq] at H
 obtain ⟨rfl, rfl, rfl, rfl⟩ := H
 go_enter Try.func119, Try.ntmps119
 go_wp2_with (first | ((with_reducible refine gate_dst (N := 2) rfl ?_); refine boxE_ (cs := #[.int .u64 a0_0, .int .u64 a0_1, .int .u64 a0_2, .int .u64 a0_3]) (t := 29) ?_; intro gb165 hg w5 hbox hb; have BK165 := a_ (hbox); have GW165 := sizeB_ hg; replace HB := stepB_ hb; clear hb hbox hg) | ((with_reducible refine gate_dst (N := 3) rfl ?_); refine boxE_ (cs := #[.int .u64 a1_0, .int .u64 a1_1, .int .u64 a1_2, .int .u64 a1_3]) (t := 29) ?_; intro gb166 hg w6 hbox hb; have BK166 := a_ (hbox); have GW166 := sizeB_ hg; replace HB := stepB_ hb; obtain ⟨NB165_166, NB166_165⟩ := ne2_ BK165.out hg; replace BK165 := bb_ BK165.out hb; clear hb hbox hg) | ((with_reducible refine gate_dst (N := 4) rfl ?_); refine boxE_ (cs := #[.int .u64 0, .int .u64 0, .int .u64 0, .int .u64 0]) (t := 29) ?_; intro gb167 hg w7 hbox hb; have BK167 := a_ (hbox); have GW167 := sizeB_ hg; replace HB := stepB_ hb; obtain ⟨NB165_167, NB167_165⟩ := ne2_ BK165.out hg; replace BK165 := bb_ BK165.out hb; obtain ⟨NB166_167, NB167_166⟩ := ne2_ BK166.out hg; replace BK166 := bb_ BK166.out hb; clear hb hbox hg; have hnb8 := NB165_166.out; have hnc8 := NB166_165.out; have hnb9 := NB165_167.out; have hnc9 := NB167_165.out; obtain ⟨z10_0, z10_1, z10_2, z10_3, f10_0, f10_1, f10_2, f10_3⟩ := cz4_ BK165.out; have hnb11 := NB166_167.out; have hnc11 := NB167_166.out; obtain ⟨z12_0, z12_1, z12_2, z12_3, f12_0, f12_1, f12_2, f12_3⟩ := cz4_ BK166.out) | (refine gcL_ 90 (some 7) Try.func90 #[.agg #[.int .u64 a0_0, .int .u64 a0_1, .int .u64 a0_2, .int .u64 a0_3], .agg #[.int .u64 a1_0, .int .u64 a1_1, .int .u64 a1_2, .int .u64 a1_3]] ?_; (with_reducible refine (spec_l1PairText.calls k a0_0 a0_1 a0_2 a0_3 a1_0 a1_1 a1_2 a1_3 t168 _ A3.out).mono ?_); rintro e w13 ⟨rfl, hb⟩; refine ⟨_, rfl, ?_⟩; replace BK165 := bb_ BK165.out hb; replace BK166 := bb_ BK166.out hb; replace BK167 := bb_ BK167.out hb; replace HB := stepB_ hb; (try clear hb)) | (refine gcL_ 72 (some 8) Try.func72 #[.string t168] ?_; (with_reducible refine (spec_HashOf.calls k t168 t169 t170 t171 t172 _ A4.out).mono ?_); rintro e w14 ⟨rfl, hb⟩; refine ⟨_, rfl, ?_⟩; replace BK165 := bb_ BK165.out hb; replace BK166 := bb_ BK166.out hb; replace BK167 := bb_ BK167.out hb; replace HB := stepB_ hb; (try clear hb); obtain ⟨z15_0, z15_1, z15_2, z15_3, f15_0, f15_1, f15_2, f15_3⟩ := cz4_ BK167.out))
 refine bodyPost_ret (results_cell_row rfl _ _ gb167 29 #[.int .u64 t169, .int .u64 t170, .int .u64 t171, .int .u64 t172] (0, 0) _ rfl (blkF_ BK167.out) Try.underlying29 rfl (by kernel_rfl)) rfl ?_
 exact ⟨rfl_, bel_⟩
end
section
def spec_l1LeafText.f (a0 : ByteArray) : Option (ByteArray) := (some (([0] : List Int) : List Int)).bind fun y643 => (if (strOfNums y643).size + a0.size ≤ 9223372036854775807 then (some ((strOfNums y643) ++ a0)) else (none))
theorem spec_l1LeafText.calls (a0 r : ByteArray) (w : World) (h : spec_l1LeafText.f a0 = some r) :
  Calls Try.prog 87 #[.string a0] w fun e w' => e = .returned (.string r) ∧ Below w.heap.size w w' := by
 have HB := a_ (Below.refl w.heap.size w)
 have H := h
 unfold spec_l1LeafText.f at H
 clear h
 obtain ⟨y643, hy643⟩ : ∃ y_ : List Int, y_ = (([0] : List Int)) := ⟨_, rfl⟩
 replace H : (if (strOfNums y643).size + a0.size ≤ 9223372036854775807 then (some ((strOfNums y643) ++ a0)) else (none)) = some r := rpl_ hy643 H
 have Ny643 := Aside0.mk hy643
 clear hy643
 by_cases c2 : (strOfNums y643).size + a0.size ≤ 9223372036854775807
 ·rw [if_pos c2] at H
  have c2b0 := eq_true c2
  have c2b1 := decide_eq_true c2
  try have c2b2 : (9223372036854775807 < (strOfNums y643).size + a0.size) = False := eq_false (Nat.not_lt.2 c2)
  obtain rfl := Option.some.inj H
  go_enter Try.func87, Try.ntmps87
  go_wp2_with (first | ((with_reducible refine gate_dst (N := 3) rfl ?_); refine Kd.R_lit (Kd.int .u8) _ 5 ?hg (N := 3) ?hd (xs := ([0] : List Int)) (inner := [.int .u8 0]) (ok := fun _ => True) (okp := fun _ => True) ?hr ?hp (fun _ hk => hk) trivial (Below.refl _ _) (Nat.le_refl _) (by simp) ?_; (case hd => rfl); (case hg => rfl); (case hr => first | (go_simp; done) | (go_simp; rfl)); (case hp => exact (Reps.one (show Kd.M (Kd.int .u8) _ _ _ 0 [.int .u8 0] from rfl) (Reps.none _ _))); intro v644 w3 ho4 hb hg_ hnew_; clear hg_ hnew_; (first | rw [← Ny643.out] at ho4 | (simp only [Int.reduceToNat] at ho4; rw [← Ny643.out] at ho4)); have HO645 := a_ (Kd.R_lower ho4 (below_size bel_)); replace HB := stepB_ hb; clear hb ho4; have hcv5 := own_string (P := Try.prog) Try.underlying60 Try.underlying5 Try.underlying9 (Kd.own_of_R HO645.out)))
  go_ret
  exact ⟨rfl_, bel_⟩
 ·rw [if_neg c2] at H
  exact absurd H (by simp)
end
section
def spec_HashLeaf.f (k : Nat) (a0 : ByteArray) : Option (Int × Int × Int × Int) := (spec_l1LeafText.f a0).bind fun t647 => ((spec_HashOf.f k t647).bind fun bt648 => (some (bt648.1, bt648.2.1, bt648.2.2.1, bt648.2.2.2)))
theorem spec_HashLeaf.calls (k : Nat) (a0 : ByteArray) (r1 r2 : Int) (r3 r4 : Int) (w : World) (h : spec_HashLeaf.f k a0 = some (r1, r2, r3, r4)) :
  Calls Try.prog 92 #[.string a0] w fun e w' => e = .returned (.agg #[.int .u64 r1, .int .u64 r2, .int .u64 r3, .int .u64 r4]) ∧ Below w.heap.size w w' := by
 have hu29 := Try.underlying29
 have HB := a_ (Below.refl w.heap.size w)
 have H := h
 unfold spec_HashLeaf.f at H
 clear h
 obtain ⟨t647, A2, H⟩ := bnd_ H
 obtain ⟨⟨t648, t649, t650, t651⟩, A3, H⟩ := bnd_ H
 dsimp only at H
 simp only [Option.some.injEq, Prod.mk.injEq] at H
 obtain ⟨rfl, rfl, rfl, rfl⟩ := H
 go_enter Try.func92, Try.ntmps92
 go_wp2_with (first | ((with_reducible refine gate_dst (N := 2) rfl ?_); refine boxE_ (cs := #[.int .u64 0, .int .u64 0, .int .u64 0, .int .u64 0]) (t := 29) ?_; intro gb646 hg w4 hbox hb; have BK646 := a_ (hbox); have GW646 := sizeB_ hg; replace HB := stepB_ hb; clear hb hbox hg) | (refine gcL_ 87 (some 4) Try.func87 #[.string a0] ?_; (with_reducible refine (spec_l1LeafText.calls a0 t647 _ A2.out).mono ?_); rintro e w5 ⟨rfl, hb⟩; refine ⟨_, rfl, ?_⟩; replace BK646 := bb_ BK646.out hb; replace HB := stepB_ hb; (try clear hb)) | (refine gcL_ 72 (some 5) Try.func72 #[.string t647] ?_; (with_reducible refine (spec_HashOf.calls k t647 t648 t649 t650 t651 _ A3.out).mono ?_); rintro e w6 ⟨rfl, hb⟩; refine ⟨_, rfl, ?_⟩; replace BK646 := bb_ BK646.out hb; replace HB := stepB_ hb; (try clear hb); obtain ⟨z7_0, z7_1, z7_2, z7_3, f7_0, f7_1, f7_2, f7_3⟩ := cz4_ BK646.out))
 refine bodyPost_ret (results_cell_row rfl _ _ gb646 29 #[.int .u64 t648, .int .u64 t649, .int .u64 t650, .int .u64 t651] (0, 0) _ rfl (blkF_ BK646.out) Try.underlying29 rfl (by kernel_rfl)) rfl ?_
 exact ⟨rfl_, bel_⟩
end
section
def spec_l3PeakOf.l0 : Nat → Int → Int → Int → Option (Int × Int)
 | 0, _, _, _ => none
 | k + 1, x0, x1, x6 => (spec_l2Half.f k (wrap64 (x0 - x6))).bind fun t568 => (if x1 ≥ (wrap64 (x6 + t568)) then ((spec_l2Half.f k (wrap64 (x0 - x6))).bind fun t569 => (spec_l3PeakOf.l0 k x0 x1 (wrap64 (x6 + t569)))) else ((spec_l2Half.f k (wrap64 (x0 - x6))).bind fun t570 => (some (x6, t570))))
def spec_l3PeakOf.f (k : Nat) (a0 a1 : Int) : Option (Int × Int) := spec_l3PeakOf.l0 k a0 a1 0
theorem spec_l3PeakOf.calls (k : Nat) (a0 a1 : Int) (r1 r2 : Int) (w : World) (h : spec_l3PeakOf.f k a0 a1 = some (r1, r2)) :
  Calls Try.prog 83 #[.int .i64 a0, .int .i64 a1] w fun e w' => e = .returned (.tuple #[.int .i64 r1, .int .i64 r2]) ∧ Drawn0 w w' := by
 have H := h
 unfold spec_l3PeakOf.f at H
 clear h
 have H' := Aside0.mk H
 clear H
 go_enter Try.func83, Try.ntmps83
 go_wp2
 go_loopg [6] k (fun kq v6 w' => ∃ (x6_1 : Int), v6 = .int .i64 x6_1 ∧ Aside0 (spec_l3PeakOf.l0 kq a0 a1 x6_1 = some (r1, r2)) ∧ Aside0 (kq ≤ k) ∧ Drawn0 w w')
 case atStart => exact ⟨(0), rl_, H', ⟨Nat.le_refl _⟩, by repeat (first | exact Drawn0.refl _ | apply Drawn0.step)⟩
 case round =>
  clear H'
  obtain ⟨x6_1, rfl, HA, HK1, ⟨m1, rfl⟩⟩ := hrel
  cases gk with
  | zero => exact absurd HA.out (by simp [spec_l3PeakOf.l0])
  | succ k1 =>
   have H := HA.out
   clear HA
   simp only [spec_l3PeakOf.l0] at H
   obtain ⟨t568, A3, H⟩ := bnd_ H
   by_cases c4 : a1 ≥ (wrap64 (x6_1 + t568))
   ·rw [if_pos c4] at H
    have c4b0 : decide ((wrap64 (x6_1 + t568)) ≤ a1) = true := decide_eq_true c4
    clear c4
    obtain ⟨t569, A5, H⟩ := bnd_ H
    have H' := Aside0.mk H
    clear H
    go_wp2_with (first | (refine gcL_ 93 (some 12) Try.func93 #[.int .i64 (wrap64 (a0 - x6_1))] ?_; (with_reducible refine (spec_l2Half.calls k1 (wrap64 (a0 - x6_1)) t568 _ A3.out).mono ?_); rintro e w' ⟨rfl, ⟨nd, rfl⟩⟩; refine ⟨_, rfl, ?_⟩) | (refine gcL_ 93 (some 19) Try.func93 #[.int .i64 (wrap64 (a0 - x6_1))] ?_; (with_reducible refine (spec_l2Half.calls k1 (wrap64 (a0 - x6_1)) t569 _ A5.out).mono ?_); rintro e w' ⟨rfl, ⟨nd, rfl⟩⟩; refine ⟨_, rfl, ?_⟩))
    go_roundg k1
    case measure => have := HK1.out; omega
    case rel => exact ⟨(wrap64 (x6_1 + t569)), rl_, H', ⟨by have := HK1.out; omega⟩, by repeat (first | exact Drawn0.refl _ | apply Drawn0.step)⟩
   ·rw [if_neg c4] at H
    have c4b0 : decide ((wrap64 (x6_1 + t568)) ≤ a1) = false := decide_eq_false c4
    clear c4
    obtain ⟨t570, A6, H⟩ := bnd_ H
    simp only [Option.some.injEq, Prod.mk.injEq] at H
    obtain ⟨rfl, rfl⟩ := H
    go_wp2_with (first | (refine gcL_ 93 (some 12) Try.func93 #[.int .i64 (wrap64 (a0 - x6_1))] ?_; (with_reducible refine (spec_l2Half.calls k1 (wrap64 (a0 - x6_1)) t568 _ A3.out).mono ?_); rintro e w' ⟨rfl, ⟨nd, rfl⟩⟩; refine ⟨_, rfl, ?_⟩) | (refine gcL_ 93 (some 25) Try.func93 #[.int .i64 (wrap64 (a0 - x6_1))] ?_; (with_reducible refine (spec_l2Half.calls k1 (wrap64 (a0 - x6_1)) t570 _ A6.out).mono ?_); rintro e w' ⟨rfl, ⟨nd, rfl⟩⟩; refine ⟨_, rfl, ?_⟩))
    go_ret2
    exact ⟨rl_, dr_⟩
end
section
mutual
def spec_l3Digests.l0 : Nat → List (S29) → List (S29) → List (S29) → Int → Option ((List (S29)))
 | 0, _, _, _, _ => none
 | k + 1, x0, x1, x5, x6 => if x6 < (x0.length : Int) then (if 0 ≤ x6 then (if x5.length < 4398046511104 then (spec_l3Digests.l0 k x0 x1 (x5 ++ [(⟨(rd_T29 x0 x6).f0, (rd_T29 x0 x6).f1, (rd_T29 x0 x6).f2, (rd_T29 x0 x6).f3⟩ : S29)]) (wrap64 (x6 + 1))) else (none)) else (none)) else (spec_l3Digests.l1 k x1 x5 0)
def spec_l3Digests.l1 : Nat → List (S29) → List (S29) → Int → Option ((List (S29)))
 | 0, _, _, _ => none
 | k + 1, x1, x5, x7 => if x7 < (x1.length : Int) then (if 0 ≤ x7 then (if x5.length < 4398046511104 then (spec_l3Digests.l1 k x1 (x5 ++ [(⟨(rd_T29 x1 x7).f0, (rd_T29 x1 x7).f1, (rd_T29 x1 x7).f2, (rd_T29 x1 x7).f3⟩ : S29)]) (wrap64 (x7 + 1))) else (none)) else (none)) else (some x5)
end
def spec_l3Digests.f (k : Nat) (l0 l1 : List (S29)) : Option ((List (S29))) := spec_l3Digests.l0 k l0 l1 (([] : List (S29))) 0
theorem spec_l3Digests.calls (k : Nat) (A0 : Option Addr) (c0 : Nat) (l0 : List (S29)) (A1 : Option Addr) (c1 : Nat) (l1 r : List (S29)) (w : World) (hr0 : Kd.C k29 w A0 l0.length l0) (hc0 : l0.length ≤ c0) (hr1 : Kd.C k29 w A1 l1.length l1) (hc1 : l1.length ≤ c1) (h : spec_l3Digests.f k l0 l1 = some r) :
  Calls Try.prog 82 #[.slice A0 l0.length c0, .slice A1 l1.length c1] w fun e w' => ∃ v0_ : Value, e = .returned (v0_) ∧ Kd.R k29 29 w' w.heap.size (fun _ => True) v0_ r ∧ Below w.heap.size w w' := by
 have hu29 := Try.underlying29
 have HR0 := Aside0.mk hr0
 have HC0 := Aside0.mk hc0
 clear hr0 hc0
 have HR1 := Aside0.mk hr1
 have HC1 := Aside0.mk hc1
 clear hr1 hc1
 have HB := a_ (Below.refl w.heap.size w)
 have H := h
 unfold spec_l3Digests.f at H
 clear h
 obtain ⟨y557, hy557⟩ : ∃ y_ : List (S29), y_ = (([] : List (S29))) := ⟨_, rfl⟩
 replace H : (spec_l3Digests.l0 k l0 l1 y557 0) = some r := rpl_ hy557 H
 have Ny557 := Aside0.mk hy557
 clear hy557
 have H' := Aside0.mk H
 clear H
 go_enter Try.func82, Try.ntmps82
 go_wp2_with (first | ((with_reducible refine gate_dst (N := 8) rfl ?_); refine Kd.R_lit k29 _ 29 ?hg (N := 8) ?hd (xs := ([] : List (S29))) (inner := []) (ok := fun _ => True) (okp := fun _ => True) ?hr ?hp (fun _ hk => hk) trivial (Below.refl _ _) (Nat.le_refl _) (by simp) ?_; (case hd => rfl); (case hg => rfl); (case hr => first | (go_simp; done) | (go_simp; rfl)); (case hp => exact (Reps.none _ _)); intro v558 w3 ho4 hb hg_ hnew_; clear hg_ hnew_; (first | rw [← Ny557.out] at ho4 | (simp only [Int.reduceToNat] at ho4; rw [← Ny557.out] at ho4)); have HO559 := a_ (Kd.R_lower ho4 (below_size bel_)); replace HB := stepB_ hb; clear hb ho4))
 go_loopg [5, 6] k (fun kq v5 v6 w' => ∃ (x5_1 : List (S29)) (x6_1 : Int), v6 = .int .i64 x6_1 ∧ Aside0 (spec_l3Digests.l0 kq l0 l1 x5_1 x6_1 = some r) ∧ Aside0 (kq ≤ k) ∧ Aside0 (Kd.R k29 29 w' w.heap.size (fun _ => True) v5 x5_1) ∧ Aside0 (Below w.heap.size w w'))
 case atStart => exact ⟨(y557), (0), rl_, H', ⟨Nat.le_refl _⟩, ⟨kdU_ HO559.out⟩, ⟨bel_⟩⟩
 case round =>
  clear H'
  (try clear c1)
  obtain ⟨x5_1, x6_1, rfl, HA, HK1, HO_5, HB⟩ := hrel
  cases gk with
  | zero => exact absurd HA.out (by simp [spec_l3Digests.l0])
  | succ k1 =>
   have H := HA.out
   clear HA
   simp only [spec_l3Digests.l0] at H
   by_cases c5 : x6_1 < (l0.length : Int)
   ·rw [if_pos c5] at H
    have c5b0 := decide_eq_true c5
    clear c5
    by_cases c6 : 0 ≤ x6_1
    ·rw [if_pos c6] at H
     have c6b0 := decide_eq_true c6
     clear c6
     by_cases c7 : x5_1.length < 4398046511104
     ·rw [if_pos c7] at H
      have LMc7 := Aside0.mk c7
      clear c7
      obtain ⟨y561, hy561⟩ : ∃ y_ : List (S29), y_ = (x5_1 ++ [(⟨(rd_T29 l0 x6_1).f0, (rd_T29 l0 x6_1).f1, (rd_T29 l0 x6_1).f2, (rd_T29 l0 x6_1).f3⟩ : S29)]) := ⟨_, rfl⟩
      replace H : (spec_l3Digests.l0 k1 l0 l1 y561 (wrap64 (x6_1 + 1))) = some r := rpl_ hy561 H
      have Ny561 := Aside0.mk hy561
      clear hy561
      have H' := Aside0.mk H
      clear H
      have p560 : 0 ≤ (x6_1 : Int) := ofd_
      have q560 : x6_1 < (l0.length : Int) := ofd_
      obtain ⟨ad560, e560, hx560_0, hx560_1, hx560_2, hx560_3⟩ := at_T29 HR0.out x6_1 p560 q560
      cases e560
      replace hx560_0 := pc_ HB.out hx560_0
      replace hx560_1 := pc_ HB.out hx560_1
      replace hx560_2 := pc_ HB.out hx560_2
      replace hx560_3 := pc_ HB.out hx560_3
      replace p560 := eq_true p560
      replace q560 := eq_true q560
      go_wp2_with (first | ((with_reducible refine gate_builtin (b := .append) (xs := #[.tmp 15, .tmp 20]) rfl ?_); at_builtin; refine Kd.R_append k29 (w0 := w) w.heap.size rfl (.tmp 15) (.tmp 20) 49 29 (.agg #[(.int .u64 0), (.int .u64 0), (.int .u64 0), (.int .u64 0)]) 32 rfl Try.underlying49 info29 rfl (by decide) (by omega) u5 x5_1 (⟨(rd_T29 l0 x6_1).f0, (rd_T29 l0 x6_1).f1, (rd_T29 l0 x6_1).f2, (rd_T29 l0 x6_1).f3⟩ : S29) [.int .u64 ((rd_T29 l0 x6_1).f0), .int .u64 ((rd_T29 l0 x6_1).f1), .int .u64 ((rd_T29 l0 x6_1).f2), .int .u64 ((rd_T29 l0 x6_1).f3)] (fun _ => True) (fun _ => False) rfl rfl ?aP (fun _ hk => hk.elim) ?aF ?aO ?aB ?aS ?aL ?_; (case aP => exact k29_mkM _ _ _ (⟨(rd_T29 l0 x6_1).f0, (rd_T29 l0 x6_1).f1, (rd_T29 l0 x6_1).f2, (rd_T29 l0 x6_1).f3⟩ : S29)); (case aB => exact bel_); (case aF => exact (fun _ _ => trivial)); (case aO => exact (kdU_ HO_5.out)); (case aS => exact (below_size bel_)); (case aL => have := LMc7.out; omega); intro v562 w8 ho hb hg hat; rw [← Ny561.out] at ho; replace HB := a_ (hb); have HO563 := a_ (ho); clear HO_5; clear ho hb hg hat))
      go_roundg k1
      case measure => have := HK1.out; omega
      case rel => exact ⟨(y561), (wrap64 (x6_1 + 1)), rl_, H', ⟨by have := HK1.out; omega⟩, ⟨kdU_ HO563.out⟩, ⟨bel_⟩⟩
     ·rw [if_neg c7] at H
      exact absurd H (by simp)
    ·rw [if_neg c6] at H
     exact absurd H (by simp)
   ·rw [if_neg c5] at H
    have c5b0 := decide_eq_false c5
    clear c5
    have H' := Aside0.mk H
    clear H
    go_wp2
    go_loopg [5, 7] k1 (fun kq v5 v7 w' => ∃ (x5_2 : List (S29)) (x7_2 : Int), v7 = .int .i64 x7_2 ∧ Aside0 (spec_l3Digests.l1 kq l1 x5_2 x7_2 = some r) ∧ Aside0 (kq ≤ k1) ∧ Aside0 (Kd.R k29 29 w' w.heap.size (fun _ => True) v5 x5_2) ∧ Aside0 (Below w.heap.size w w'))
    case atStart => exact ⟨(x5_1), (0), rl_, H', ⟨Nat.le_refl _⟩, ⟨kdU_ HO_5.out⟩, ⟨bel_⟩⟩
    case round =>
     clear H'
     (try clear c1); (try clear c5); (try clear c5b0); (try clear c6); (try clear c6b0); (try clear c7); (try clear hx560_0); (try clear hx560_1); (try clear hx560_2); (try clear hx560_3); (try clear p560); (try clear q560)
     obtain ⟨x5_2, x7_2, rfl, HA, HK2, HO_5, HB⟩ := hrel
     cases gk with
     | zero => exact absurd HA.out (by simp [spec_l3Digests.l1])
     | succ k2 =>
      have H := HA.out
      clear HA
      simp only [spec_l3Digests.l1] at H
      by_cases c9 : x7_2 < (l1.length : Int)
      ·rw [if_pos c9] at H
       have c9b0 := decide_eq_true c9
       clear c9
       by_cases c10 : 0 ≤ x7_2
       ·rw [if_pos c10] at H
        have c10b0 := decide_eq_true c10
        clear c10
        by_cases c11 : x5_2.length < 4398046511104
        ·rw [if_pos c11] at H
         have LMc11 := Aside0.mk c11
         clear c11
         obtain ⟨y565, hy565⟩ : ∃ y_ : List (S29), y_ = (x5_2 ++ [(⟨(rd_T29 l1 x7_2).f0, (rd_T29 l1 x7_2).f1, (rd_T29 l1 x7_2).f2, (rd_T29 l1 x7_2).f3⟩ : S29)]) := ⟨_, rfl⟩
         replace H : (spec_l3Digests.l1 k2 l1 y565 (wrap64 (x7_2 + 1))) = some r := rpl_ hy565 H
         have Ny565 := Aside0.mk hy565
         clear hy565
         have H' := Aside0.mk H
         clear H
         have p564 : 0 ≤ (x7_2 : Int) := ofd_
         have q564 : x7_2 < (l1.length : Int) := ofd_
         obtain ⟨ad564, e564, hx564_0, hx564_1, hx564_2, hx564_3⟩ := at_T29 HR1.out x7_2 p564 q564
         cases e564
         replace hx564_0 := pc_ HB.out hx564_0
         replace hx564_1 := pc_ HB.out hx564_1
         replace hx564_2 := pc_ HB.out hx564_2
         replace hx564_3 := pc_ HB.out hx564_3
         replace p564 := eq_true p564
         replace q564 := eq_true q564
         go_wp2_with (first | ((with_reducible refine gate_builtin (b := .append) (xs := #[.tmp 28, .tmp 33]) rfl ?_); at_builtin; refine Kd.R_append k29 (w0 := w) w.heap.size rfl (.tmp 28) (.tmp 33) 49 29 (.agg #[(.int .u64 0), (.int .u64 0), (.int .u64 0), (.int .u64 0)]) 32 rfl Try.underlying49 info29 rfl (by decide) (by omega) u5 x5_2 (⟨(rd_T29 l1 x7_2).f0, (rd_T29 l1 x7_2).f1, (rd_T29 l1 x7_2).f2, (rd_T29 l1 x7_2).f3⟩ : S29) [.int .u64 ((rd_T29 l1 x7_2).f0), .int .u64 ((rd_T29 l1 x7_2).f1), .int .u64 ((rd_T29 l1 x7_2).f2), .int .u64 ((rd_T29 l1 x7_2).f3)] (fun _ => True) (fun _ => False) rfl rfl ?aP (fun _ hk => hk.elim) ?aF ?aO ?aB ?aS ?aL ?_; (case aP => exact k29_mkM _ _ _ (⟨(rd_T29 l1 x7_2).f0, (rd_T29 l1 x7_2).f1, (rd_T29 l1 x7_2).f2, (rd_T29 l1 x7_2).f3⟩ : S29)); (case aB => exact bel_); (case aF => exact (fun _ _ => trivial)); (case aO => exact (kdU_ HO_5.out)); (case aS => exact (below_size bel_)); (case aL => have := LMc11.out; omega); intro v566 w12 ho hb hg hat; rw [← Ny565.out] at ho; replace HB := a_ (hb); have HO567 := a_ (ho); clear HO_5; clear ho hb hg hat))
         go_roundg k2
         case measure => have := HK1.out; have := HK2.out; omega
         case rel => exact ⟨(y565), (wrap64 (x7_2 + 1)), rl_, H', ⟨by have := HK1.out; have := HK2.out; omega⟩, ⟨kdU_ HO567.out⟩, ⟨bel_⟩⟩
        ·rw [if_neg c11] at H
         exact absurd H (by simp)
       ·rw [if_neg c10] at H
        exact absurd H (by simp)
      ·rw [if_neg c9] at H
       have c9b0 := decide_eq_false c9
       clear c9
       obtain rfl := Option.some.inj H
       go_wp2
       go_ret
       exact ⟨_, rfl_, by (with_reducible repeat (first | apply Kd.R_alloc | apply Kd.R_drewN | apply Kd.R_drew)); exact HO_5.out, bel_⟩
end
end
end Go.Proofs.Ytflckegggopdnaa.B
