/- What the Go functions of these names do; condition: .f gives an answer. -/
import Derived.Test.YtflckegggopdnaaZCHP0
import Derived.Test.YtflckegggopdnaaZCHP5
import Derived.Test.YtflckegggopdnaaZCHP7
import Derived.Test.YtflckegggopdnaaZCHP6
import Derived.Test.YtflckegggopdnaaZCHP3
import Derived.Test.YtflckegggopdnaaZCHP10
namespace Go.Proofs.Ytflckegggopdnaa.B
open Go.RowKit Go.Proofs.YtflckegggopdnaaW.PrintWords Go.Proofs.YtflckegggopdnaaW.PrintLast Go.Proofs.YtflckegggopdnaaW.PrintMore
attribute [local go_sem] max2_int min2_int max_two min_two max_three min_three max_four min_four
set_option linter.unusedVariables false
set_option maxHeartbeats 8000000
set_option maxRecDepth 100000
set_option linter.unusedSimpArgs false
section
attribute [local go_sem high] eqA29
mutual
def impl_GrowthCheck.j0 : Nat → List (S29) → Int → Int → Bool → Int → Int → Int → Int → Int → Int → Int → Int → Int → Int → Option (Int)
 | 0, _, _, _, _, _, _, _, _, _, _, _, _, _, _ => none
 | k + 1, x2, x7, x8, x9, x460000, x460001, x460002, x460003, x460004, x461000, x461001, x461002, x461003, x461004 => (impl_mayGrow.f x7 x8).bind fun t461 => (if t461 = true then ((impl_GrowthLen.f k x7 x8).bind fun t462 => (if (x2.length : Int) = t462 then (if x7 = 0 then ((impl_HashOf.f k (⟨#[]⟩ : ByteArray)).bind fun bt463 => (if (!(x460001 == bt463.1) || (!(x460002 == bt463.2.1) || (!(x460003 == bt463.2.2.1) || (!(x460004 == bt463.2.2.2))))) = true then (impl_GrowthCheck.j1 k x2 x7 x8 x9 true x460000 x460001 x460002 x460003 x460004 x461000 x461001 x461002 x461003 x461004) else (if x9 = true then ((impl_PeaksCount.f x7).bind fun t467 => (if 0 ≤ t467 then (if t467 ≤ (x2.length : Int) then ((impl_PeaksRoot.f k (x2.take (t467 : Int).toNat)).bind fun bt472 => (impl_GrowthCheck.j1 k x2 x7 x8 x9 (!(bt472.1 == x460001) || (!(bt472.2.1 == x460002) || (!(bt472.2.2.1 == x460003) || (!(bt472.2.2.2 == x460004))))) x460000 x460001 x460002 x460003 x460004 x461000 x461001 x461002 x461003 x461004)) else (none)) else (none))) else (impl_GrowthCheck.j1 k x2 x7 x8 x9 false x460000 x460001 x460002 x460003 x460004 x461000 x461001 x461002 x461003 x461004)))) else (if x9 = true then ((impl_PeaksCount.f x7).bind fun t476 => (if 0 ≤ t476 then (if t476 ≤ (x2.length : Int) then ((impl_PeaksRoot.f k (x2.take (t476 : Int).toNat)).bind fun bt481 => (impl_GrowthCheck.j1 k x2 x7 x8 x9 (!(bt481.1 == x460001) || (!(bt481.2.1 == x460002) || (!(bt481.2.2.1 == x460003) || (!(bt481.2.2.2 == x460004))))) x460000 x460001 x460002 x460003 x460004 x461000 x461001 x461002 x461003 x461004)) else (none)) else (none))) else (impl_GrowthCheck.j1 k x2 x7 x8 x9 false x460000 x460001 x460002 x460003 x460004 x461000 x461001 x461002 x461003 x461004))) else (some 2))) else (some 1))
def impl_GrowthCheck.j1 : Nat → List (S29) → Int → Int → Bool → Bool → Int → Int → Int → Int → Int → Int → Int → Int → Int → Int → Option (Int)
 | 0, _, _, _, _, _, _, _, _, _, _, _, _, _, _, _ => none
 | k + 1, x2, x7, x8, x9, x33, x460000, x460001, x460002, x460003, x460004, x461000, x461001, x461002, x461003, x461004 => if x33 = true then (some 3) else (if x7 = x8 then (if (!(x460001 == x461001) || (!(x460002 == x461002) || (!(x460003 == x461003) || (!(x460004 == x461004))))) = true then (some 4) else (if x9 = true then ((impl_known.f k x7 x8 x2).bind fun t485 => ((impl_digestBy.f k t485 0 x8).bind fun bt486 => (if (!(bt486.1 == x461001) || (!(bt486.2.1 == x461002) || (!(bt486.2.2.1 == x461003) || (!(bt486.2.2.2 == x461004))))) = true then (some 4) else (some 0)))) else (some 0))) else (if x9 = true then ((impl_known.f k x7 x8 x2).bind fun t490 => ((impl_digestBy.f k t490 0 x8).bind fun bt491 => (if (!(bt491.1 == x461001) || (!(bt491.2.1 == x461002) || (!(bt491.2.2.1 == x461003) || (!(bt491.2.2.2 == x461004))))) = true then (some 4) else (some 0)))) else (some 0)))
end
def impl_GrowthCheck.f (k : Nat) (a0_0 a0_1 : Int) (a0_2 a0_3 : Int) (a0_4 a1_0 : Int) (a1_1 a1_2 : Int) (a1_3 a1_4 : Int) (l2 : List (S29)) : Option (Int) := if a0_0 > 0 then (impl_GrowthCheck.j0 k l2 a0_0 a1_0 (decide (a0_0 < a1_0)) a0_0 a0_1 a0_2 a0_3 a0_4 a1_0 a1_1 a1_2 a1_3 a1_4) else (impl_GrowthCheck.j0 k l2 a0_0 a1_0 false a0_0 a0_1 a0_2 a0_3 a0_4 a1_0 a1_1 a1_2 a1_3 a1_4)
def impl_GrowthCheck.T7 : Bool × List (List Nat × List Nat) := (true, [([], []), ([0], [0]), ([1], [1]), ([2], [2]), ([3, 2], [2, 3]), ([2, 2], [2]), ([4, 5, 2], [2, 4, 5]), ([2, 6], [2, 6]), ([7, 5], [7]), ([8], [8]), ([9, 8, 8], [8, 9]), ([10], [10]), ([10], [10]), ([12, 10, 10], [10, 12]), ([11, 13, 10], [10, 11, 13]), ([14, 13, 10], [10, 14]), ([10], [10]), ([16, 10], [10, 16]), ([15, 17, 10], [10, 15, 17]), ([10, 18, 8], [8, 10, 18]), ([8, 19], [8, 19]), ([20, 15], [20])])
def impl_GrowthCheck.B7 : List Nat := [0, 1, 3, 7, 15, 7, 63, 127, 255, 511, 1023, 2047, 2047, 6143, 16383, 32767, 2047, 67583, 262143, 524287, 1048575, 2097151]
theorem impl_GrowthCheck.tab7 : rtab .any (opsOf Try.f33 7) = impl_GrowthCheck.T7 := by kernel_rfl
theorem impl_GrowthCheck.bits7 : waitsOk impl_GrowthCheck.T7.2 impl_GrowthCheck.B7 = true := by kernel_rfl
def impl_GrowthCheck.T9 : Bool × List (List Nat × List Nat) := (true, [([], []), ([], []), ([0, 1], [0, 1]), ([2], [2]), ([3], [3]), ([4, 3], [3, 4]), ([3], [3]), ([6, 3], [3, 6]), ([5, 7, 3], [3, 5, 7]), ([3, 8], [3, 8]), ([9, 3], [9]), ([10], [10]), ([11, 10, 10], [10, 11]), ([12], [12]), ([12], [12]), ([12], [12]), ([13, 14, 15, 12, 12], [12, 13, 14, 15]), ([12], [12]), ([17, 12], [12, 17]), ([16, 18, 16, 12], [12, 16, 18]), ([12], [12]), ([20, 12], [12, 20]), ([19, 21, 12], [12, 19, 21]), ([12, 22, 10], [10, 12, 22]), ([10, 23], [10, 23]), ([24, 19], [24])])
def impl_GrowthCheck.B9 : List Nat := [0, 0, 3, 7, 15, 31, 15, 79, 255, 511, 1023, 2047, 4095, 8191, 8191, 8191, 65535, 8191, 139263, 524287, 8191, 1056767, 4194303, 8388607, 16777215, 33554431]
theorem impl_GrowthCheck.tab9 : rtab .any (opsOf Try.f33 9) = impl_GrowthCheck.T9 := by kernel_rfl
theorem impl_GrowthCheck.bits9 : waitsOk impl_GrowthCheck.T9.2 impl_GrowthCheck.B9 = true := by kernel_rfl
theorem impl_GrowthCheck.calls (k : Nat) (a0_0 a0_1 : Int) (a0_2 a0_3 : Int) (a0_4 a1_0 : Int) (a1_1 a1_2 : Int) (a1_3 a1_4 : Int) (A2 : Option Addr) (c2 : Nat) (l2 : List (S29)) (r : Int) (w : World) (hr2 : Kd.C k29 w A2 l2.length l2) (hc2 : l2.length ≤ c2) (h : impl_GrowthCheck.f k a0_0 a0_1 a0_2 a0_3 a0_4 a1_0 a1_1 a1_2 a1_3 a1_4 l2 = some r) :
  Calls Try.prog 33 #[.agg #[.int .i64 a0_0, .int .u64 a0_1, .int .u64 a0_2, .int .u64 a0_3, .int .u64 a0_4], .agg #[.int .i64 a1_0, .int .u64 a1_1, .int .u64 a1_2, .int .u64 a1_3, .int .u64 a1_4], .slice A2 l2.length c2] w fun e w' => e = .returned (.int .i64 r) ∧ Below w.heap.size w w' := by
 have hu31 := Try.underlying31
 have hu29 := Try.underlying29
 have hu100 := Try.underlying100
 have HR2 := Aside0.mk hr2
 have HC2 := Aside0.mk hc2
 clear hr2 hc2
 have HB := a_ (Below.refl w.heap.size w)
 have H := h
 unfold impl_GrowthCheck.f at H
 clear h
 have HC4 := Aside0.mk H
 clear H
 go_enter Try.func33, Try.ntmps33
 try go_wp2_with (first | ((with_reducible refine gate_dst (N := 3) rfl ?_); refine boxE_ (cs := #[.int .i64 a0_0, .int .u64 a0_1, .int .u64 a0_2, .int .u64 a0_3, .int .u64 a0_4]) (t := 31) ?_; intro gb459 hg w5 hbox hb; have BK459 := a_ (hbox); have GW459 := sizeB_ hg; replace HB := stepB_ hb; clear hb hbox hg) | ((with_reducible refine gate_dst (N := 4) rfl ?_); refine boxE_ (cs := #[.int .i64 a1_0, .int .u64 a1_1, .int .u64 a1_2, .int .u64 a1_3, .int .u64 a1_4]) (t := 31) ?_; intro gb460 hg w6 hbox hb; have BK460 := a_ (hbox); have GW460 := sizeB_ hg; replace HB := stepB_ hb; obtain ⟨NB459_460, NB460_459⟩ := ne2_ BK459.out hg; replace BK459 := bb_ BK459.out hb; clear hb hbox hg))
 replace BK459 := a_ (blk_drew BK459.out)
 replace BK460 := a_ (blk_drew BK460.out)
 replace HB := a_ (below_drew1 HB.out)
 refine start_ (n := 6) (S := fun w' => hdc5_ w' gb459 (.int .i64 a0_0) (.int .u64 a0_1) (.int .u64 a0_2) (.int .u64 a0_3) (.int .u64 a0_4) (hd5_ w' gb460 (.int .i64 a1_0) (.int .u64 a1_1) (.int .u64 a1_2) (.int .u64 a1_3) (.int .u64 a1_4))) (ds := []) #[false, false, false, false, false, false] (by kernel_rfl) rfl rfl (hcc5_ BK459.out (hc5_ BK460.out)) (fun hHeld => ?_)
 generalize w6.drew = w7 at BK459 BK460 HB hHeld ⊢
 refine pure_ (i := 0) (N := some 10) (v := ?_) (a' := ?_) #[true, false, false, false, false, false] rfl rfl (by kernel_rfl) (fun _ _ _ h => h) (Or.inl ⟨by rfl, ?_⟩) ?_ ?_
 rotate_left
 ·intro w'
  go_simp
  with_reducible rfl
 rotate_left
 ·simp only [Act.put, List.setIfInBounds_toArray, List.set_cons_zero, List.set_cons_succ, i64_w, i32_w]
  rfl
 refine pure_ (i := 2) (N := some 12) (v := ?_) (a' := ?_) #[true, false, true, false, false, false] rfl rfl (by kernel_rfl) (fun _ _ _ h => h) (Or.inl ⟨by rfl, ?_⟩) ?_ ?_
 rotate_left
 ·intro w'
  go_simp
  with_reducible rfl
 rotate_left
 ·simp only [Act.put, List.setIfInBounds_toArray, List.set_cons_zero, List.set_cons_succ, i64_w, i32_w]
  rfl
 refine take_ (i := 1) (N := some 11) (v := ?_) (a' := ?_) #[true, true, true, false, false, false] rfl rfl (by kernel_rfl) (fun _ _ _ h => h) (Or.inl ⟨by rfl, ?_⟩) hHeld ?_ ?_
 rotate_left
 ·rintro w' ⟨s0, s1, s2, s3, s4, s5, s6, s7, s8, s9⟩
  go_simp
  with_reducible rfl
 rotate_left
 ·simp only [Act.put, List.setIfInBounds_toArray, List.set_cons_zero, List.set_cons_succ, i64_w, i32_w]
  rfl
 refine pure_ (i := 4) (N := some 7) (v := ?_) (a' := ?_) #[true, true, true, false, true, false] rfl rfl (by kernel_rfl) (fun _ _ _ h => h) (Or.inl ⟨by rfl, ?_⟩) ?_ ?_
 rotate_left
 ·intro w'
  go_simp
  with_reducible rfl
 rotate_left
 ·simp only [Act.put, List.setIfInBounds_toArray, List.set_cons_zero, List.set_cons_succ, i64_w, i32_w]
  rfl
 refine take_ (i := 3) (N := some 13) (v := ?_) (a' := ?_) #[true, true, true, true, true, false] rfl rfl (by kernel_rfl) (fun _ _ _ h => h) (Or.inl ⟨by rfl, ?_⟩) hHeld ?_ ?_
 rotate_left
 ·rintro w' ⟨s0, s1, s2, s3, s4, s5, s6, s7, s8, s9⟩
  go_simp
  with_reducible rfl
 rotate_left
 ·simp only [Act.put, List.setIfInBounds_toArray, List.set_cons_zero, List.set_cons_succ, i64_w, i32_w]
  rfl
 refine pure_ (i := 5) (N := some 8) (v := ?_) (a' := ?_) #[true, true, true, true, true, true] rfl rfl (by kernel_rfl) (fun _ _ _ h => h) (Or.inl ⟨by rfl, ?_⟩) ?_ ?_
 rotate_left
 ·intro w'
  go_simp
  with_reducible rfl
 rotate_left
 ·simp only [Act.put, List.setIfInBounds_toArray, List.set_cons_zero, List.set_cons_succ, i64_w, i32_w]
  rfl
 refine done_ (by kernel_rfl) ?_
 go_upto_region 2 with (fail)
 go_cut [9] (fun v9 wc => ∃ (kq : Nat) (x9_3 : Bool), v9 = .bool x9_3 ∧ Aside0 (impl_GrowthCheck.j0 kq l2 a0_0 a1_0 x9_3 a0_0 a0_1 a0_2 a0_3 a0_4 a1_0 a1_1 a1_2 a1_3 a1_4 = some r) ∧ Aside0 (kq ≤ k) ∧ Aside0 (wc.heap[gb459]? = some (.cells #[.int .i64 a0_0, .int .u64 a0_1, .int .u64 a0_2, .int .u64 a0_3, .int .u64 a0_4] 31 (0, 0))) ∧ Aside0 (wc.heap[gb460]? = some (.cells #[.int .i64 a1_0, .int .u64 a1_1, .int .u64 a1_2, .int .u64 a1_3, .int .u64 a1_4] 31 (0, 0))) ∧ Aside0 (Below w.heap.size w wc))
 case first =>
  have H := HC4.out
  clear HC4
  by_cases c8 : a0_0 > 0
  ·rw [if_pos c8] at H
   have c8b0 : decide (0 < a0_0) = true := decide_eq_true c8
   clear c8
   (first | rw [c8b0] | (simp only [i64_w, i32_w]; rw [c8b0]) | skip)
   have H' := Aside0.mk H
   clear H
   go_wp2
   go_meet
   case rel => exact ⟨_, (decide (a0_0 < a1_0)), rl_, H', ⟨by first | omega | exact Nat.le_refl _⟩, ⟨blkU_ BK459.out⟩, ⟨blkU_ BK460.out⟩, ⟨bel_⟩⟩
  ·rw [if_neg c8] at H
   have c8b0 : decide (0 < a0_0) = false := decide_eq_false c8
   clear c8
   (first | rw [c8b0] | (simp only [i64_w, i32_w]; rw [c8b0]) | skip)
   have H' := Aside0.mk H
   clear H
   go_wp2
   go_meet
   case rel => exact ⟨_, (false), rl_, H', ⟨by first | omega | exact Nat.le_refl _⟩, ⟨blkU_ BK459.out⟩, ⟨blkU_ BK460.out⟩, ⟨bel_⟩⟩
 case rest =>
  clear HC4
  (try clear c2); (try clear c8); (try clear c8b0)
  obtain ⟨kq, x9_3, rfl, HA, HJ3, BK459, BK460, HB⟩ := hcut
  cases kq with
  | zero => exact absurd HA.out (by simp [impl_GrowthCheck.j0])
  | succ kj3 =>
   have H := HA.out
   clear HA
   simp only [impl_GrowthCheck.j0] at H
   obtain ⟨t461, A9, H⟩ := bnd_ H
   by_cases c10 : t461 = true
   ·subst c10
    rw [if_pos rfl] at H
    obtain ⟨t462, A11, H⟩ := bnd_ H
    by_cases c12 : (l2.length : Int) = t462
    ·rw [if_pos c12] at H
     have c12b0 := beq_iff_eq.mpr c12
     have c12b1 := bne_eq_false_iff_eq.mpr c12
     clear c12
     have HC13 := Aside0.mk H
     clear H
     go_upto_region 7 with (first | (refine gcL_ 62 (some 24) Try.func62 #[.int .i64 a0_0, .int .i64 a1_0] ?_; (with_reducible refine (impl_mayGrow.calls a0_0 a1_0 true _ A9.out).mono ?_); rintro e w' ⟨rfl, ⟨nd, rfl⟩⟩; refine ⟨_, rfl, ?_⟩) | (refine gcL_ 31 (some 31) Try.func31 #[.int .i64 a0_0, .int .i64 a1_0] ?_; (with_reducible refine (impl_GrowthLen.calls kj3 a0_0 a1_0 t462 _ A11.out).mono ?_); rintro e w14 ⟨rfl, hb⟩; refine ⟨_, rfl, ?_⟩; replace BK459 := bb_ BK459.out hb; replace BK460 := bb_ BK460.out hb; replace HB := stepB_ hb; (try clear hb)))
     (try simp only [Act.put, List.setIfInBounds_toArray, List.set_cons_zero, List.set_cons_succ])
     go_cut [33] (fun v33 wc => ∃ (kq : Nat) (x33_12 : Bool), v33 = .bool x33_12 ∧ Aside0 (impl_GrowthCheck.j1 kq l2 a0_0 a1_0 x9_3 x33_12 a0_0 a0_1 a0_2 a0_3 a0_4 a1_0 a1_1 a1_2 a1_3 a1_4 = some r) ∧ Aside0 (kq ≤ kj3) ∧ Aside0 (wc.heap[gb459]? = some (.cells #[.int .i64 a0_0, .int .u64 a0_1, .int .u64 a0_2, .int .u64 a0_3, .int .u64 a0_4] 31 (0, 0))) ∧ Aside0 (wc.heap[gb460]? = some (.cells #[.int .i64 a1_0, .int .u64 a1_1, .int .u64 a1_2, .int .u64 a1_3, .int .u64 a1_4] 31 (0, 0))) ∧ Aside0 (Below w.heap.size w wc))
     case first =>
      have H := HC13.out
      clear HC13
      by_cases c15 : a0_0 = 0
      ·rw [if_pos c15] at H
       have c15b0 := beq_iff_eq.mpr c15
       have c15b1 := bne_eq_false_iff_eq.mpr c15
       clear c15
       (first | rw [c15b0] | (simp only [i64_w, i32_w]; rw [c15b0]) | skip)
       obtain ⟨⟨t463, t464, t465, t466⟩, A16, H⟩ := bnd_ H
       dsimp only at H
       by_cases c17 : (!(a0_1 == t463) || (!(a0_2 == t464) || (!(a0_3 == t465) || (!(a0_4 == t466))))) = true
       ·rw [if_pos c17] at H
        have c17b0 : (!(a0_1 == t463) || (!(a0_2 == t464) || (!(a0_3 == t465) || (!(a0_4 == t466))))) = true := c17
        clear c17
        have H' := Aside0.mk H
        clear H
        try go_wp2
        replace BK459 := a_ (blk_drew BK459.out)
        replace BK460 := a_ (blk_drew BK460.out)
        replace HB := a_ (below_drew1 HB.out)
        refine start_ (n := 22) (S := fun w' => hd5_ w' gb459 (.int .i64 a0_0) (.int .u64 a0_1) (.int .u64 a0_2) (.int .u64 a0_3) (.int .u64 a0_4)) (ds := []) #[false, false, false, false, false, false, false, false, false, false, false, false, false, false, false, false, false, false, false, false, false, false] (by kernel_rfl) rfl rfl (hc5_ BK459.out) (fun hHeld => ?_); refine with_tabW impl_GrowthCheck.tab7 impl_GrowthCheck.bits7 (fun HT HW_ => ?_)
        generalize w14.drew = w18 at BK459 BK460 HB hHeld ⊢
        refine pP_ 0 (some 34) (b_ 22 1) HT ?_
        refine pP_ 1 (some 35) (b_ 22 3) HT ?_
        refine pP_ 2 (some 36) (b_ 22 7) HT ?_
        refine pP_ 3 (some 37) (b_ 22 15) HT ?_
        refine takeP_ 4 (some 38) (b_ 22 31) HT HW_ hHeld ?_
        refine oneP_ 5 (some 39) (b_ 22 63) HT (fun K hK => ?_)
        refine goN_ Try.func68 #[.string (⟨#[]⟩ : ByteArray)] ?_
        with_reducible refine (impl_HashOf.calls kj3 (⟨#[]⟩ : ByteArray) t463 t464 t465 t466 _ A16.out).mono ?_
        rintro e w19 ⟨rfl, hb⟩
        refine ⟨_, rfl, ?_⟩
        replace BK459 := bb_ BK459.out hb
        replace BK460 := bb_ BK460.out hb
        replace HB := stepB_ hb
        (try clear hb)
        refine hK.out _ _ (hc5_ BK459.out) (fun hHeld => ?_)
        clear hK K
        refine normP_ (some 39) ?_
        refine pP_ 6 (some 40) (b_ 22 127) HT ?_
        refine pP_ 7 (some 41) (b_ 22 255) HT ?_
        refine pP_ 8 (some 42) (b_ 22 511) HT ?_
        refine pureU_ 9 (some 43) (b_ 22 1023) HT ?_
        refine pureU_ 10 (some 44) (b_ 22 2047) HT ?_
        refine pureU_ 11 (some 45) (b_ 22 4095) HT ?_
        refine pureU_ 12 (some 46) (b_ 22 8191) HT ?_
        refine pureU_ 13 (some 47) (b_ 22 16383) HT ?_
        refine pureU_ 14 (some 48) (b_ 22 32767) HT ?_
        refine pureU_ 15 (some 49) (b_ 22 65535) HT ?_
        refine pureU_ 16 (some 50) (b_ 22 131071) HT ?_
        refine pureU_ 17 (some 51) (b_ 22 262143) HT ?_
        refine pureU_ 18 (some 52) (b_ 22 524287) HT ?_
        refine pureU_ 19 (some 53) (b_ 22 1048575) HT ?_
        refine pP_ 20 (some 54) (b_ 22 2097151) HT ?_
        refine pP_ 21 (some 33) (b_ 22 4194303) HT ?_
        refine done_ (done_of HT.out (by kernel_rfl)) ?_
        try go_wp2
        go_meet
        case rel => exact ⟨_, (true), rl_, H', ⟨by have := HJ3.out; first | omega | exact Nat.le_refl _⟩, ⟨blkU_ BK459.out⟩, ⟨blkU_ BK460.out⟩, ⟨bel_⟩⟩
       ·rw [if_neg c17] at H
        have c17b0 : (!(a0_1 == t463) || (!(a0_2 == t464) || (!(a0_3 == t465) || (!(a0_4 == t466))))) = false := by simpa using c17
        clear c17
        by_cases c20 : x9_3 = true
        ·subst c20
         rw [if_pos rfl] at H
         obtain ⟨t467, A21, H⟩ := bnd_ H
         by_cases c22 : 0 ≤ t467
         ·rw [if_pos c22] at H
          have c22b0 := eq_true c22
          have c22b1 := decide_eq_true c22
          clear c22
          by_cases c23 : t467 ≤ (l2.length : Int)
          ·rw [if_pos c23] at H
           have c23b0 := eq_true c23
           have c23b1 := decide_eq_true c23
           clear c23
           obtain ⟨y468, hy468⟩ : ∃ y_ : List (S29), y_ = (l2.take (t467 : Int).toNat) := ⟨_, rfl⟩
           replace H : ((impl_PeaksRoot.f kj3 y468).bind fun bt472 => (impl_GrowthCheck.j1 kj3 l2 a0_0 a1_0 true (!(bt472.1 == a0_1) || (!(bt472.2.1 == a0_2) || (!(bt472.2.2.1 == a0_3) || (!(bt472.2.2.2 == a0_4))))) a0_0 a0_1 a0_2 a0_3 a0_4 a1_0 a1_1 a1_2 a1_3 a1_4)) = some r := rpl_ hy468 H
           have Ny468 := Aside0.mk hy468
           clear hy468
           obtain ⟨⟨t472, t473, t474, t475⟩, A24, H⟩ := bnd_ H
           dsimp only at H
           have H' := Aside0.mk H
           clear H
           try go_wp2
           replace BK459 := a_ (blk_drew BK459.out)
           replace BK460 := a_ (blk_drew BK460.out)
           replace HB := a_ (below_drew1 HB.out)
           refine start_ (n := 22) (S := fun w' => hd5_ w' gb459 (.int .i64 a0_0) (.int .u64 a0_1) (.int .u64 a0_2) (.int .u64 a0_3) (.int .u64 a0_4)) (ds := []) #[false, false, false, false, false, false, false, false, false, false, false, false, false, false, false, false, false, false, false, false, false, false] (by kernel_rfl) rfl rfl (hc5_ BK459.out) (fun hHeld => ?_); refine with_tabW impl_GrowthCheck.tab7 impl_GrowthCheck.bits7 (fun HT HW_ => ?_)
           generalize w14.drew = w25 at BK459 BK460 HB hHeld ⊢
           refine pP_ 0 (some 34) (b_ 22 1) HT ?_
           refine pP_ 1 (some 35) (b_ 22 3) HT ?_
           refine pP_ 2 (some 36) (b_ 22 7) HT ?_
           refine pP_ 3 (some 37) (b_ 22 15) HT ?_
           refine takeP_ 4 (some 38) (b_ 22 31) HT HW_ hHeld ?_
           refine oneP_ 5 (some 39) (b_ 22 63) HT (fun K hK => ?_)
           refine goN_ Try.func68 #[.string (⟨#[]⟩ : ByteArray)] ?_
           with_reducible refine (impl_HashOf.calls kj3 (⟨#[]⟩ : ByteArray) t463 t464 t465 t466 _ A16.out).mono ?_
           rintro e w26 ⟨rfl, hb⟩
           refine ⟨_, rfl, ?_⟩
           replace BK459 := bb_ BK459.out hb
           replace BK460 := bb_ BK460.out hb
           replace HB := stepB_ hb
           (try clear hb)
           refine hK.out _ _ (hc5_ BK459.out) (fun hHeld => ?_)
           clear hK K
           refine normP_ (some 39) ?_
           refine pP_ 6 (some 40) (b_ 22 127) HT ?_
           refine pP_ 7 (some 41) (b_ 22 255) HT ?_
           refine pP_ 8 (some 42) (b_ 22 511) HT ?_
           refine pP_ 9 (some 43) (b_ 22 1023) HT ?_
           refine pP_ 10 (some 44) (b_ 22 2047) HT ?_
           refine pP_ 11 (some 45) (b_ 22 4095) HT ?_
           refine pP_ 12 (some 46) (b_ 22 8191) HT ?_
           refine pP_ 16 (some 50) (b_ 22 73727) HT ?_
           refine takeP_ 17 (some 51) (b_ 22 204799) HT HW_ hHeld ?_
           refine oneP_ 13 (some 47) (b_ 22 212991) HT (fun K hK => ?_)
           refine goN_ Try.func55 #[.int .i64 a0_0] ?_
           with_reducible refine (impl_PeaksCount.calls a0_0 t467 _ A21.out).mono ?_
           rintro e w' ⟨rfl, ⟨nd, rfl⟩⟩
           refine ⟨_, rfl, ?_⟩
           have q27 : (t467 : Int) ≤ ((l2.length : Int) : Int) := ofd_
           obtain ⟨i027, hi027, _, hsz27, _⟩ := info_parts info29
           have hroom27 : l2.length ≤ c2 := HC2.out
           have hC27 : Kd.C k29 _ A2 l2.length l2 := HR2.out
           have hcut27 := cut_to (P := Try.prog) 49 29 .i64 Try.underlying49 hi027 A2 l2.length c2 t467 (ofd_) q27 hroom27
           have hr27 := Kd.C_take (m := (t467 : Int).toNat) hC27 (by omega)
           have hy27 : y468.length = (t467 : Int).toNat := (by rw [Ny468.out, List.length_take]; omega)
           rw [← Ny468.out] at hr27
           rw [← hy27] at hcut27
           have HR471 := Aside0.mk hr27
           have HC471 := a_ (show y468.length ≤ c2 from by omega)
           clear hr27 hC27 hroom27 hi027 hsz27
           have KY27 := Aside0.mk hy27
           clear hy27
           replace q27 := eq_true q27
           refine hK.out _ _ (hc5_ BK459.out) (fun hHeld => ?_)
           clear hK K
           refine normP_ (some 47) ?_
           refine pP_ 14 (some 48) (b_ 22 229375) HT ?_
           refine oneP_ 15 (some 49) (b_ 22 262143) HT (fun K hK => ?_)
           refine goN_ Try.func69 #[.slice A2 y468.length c2] ?_
           with_reducible refine (impl_PeaksRoot.calls kj3 _ _ y468 t472 t473 t474 t475 _ ?side1 ?side2 A24.out).mono ?_
           (case side1 => exact cU_ (Kd.C_below HR471.out bel_))
           (case side2 => exact HC471.out)
           rintro e w28 ⟨rfl, hb⟩
           refine ⟨_, rfl, ?_⟩
           replace BK459 := bb_ BK459.out hb
           replace BK460 := bb_ BK460.out hb
           replace HB := stepB_ hb
           (try clear hb)
           refine hK.out _ _ (hc5_ BK459.out) (fun hHeld => ?_)
           clear hK K
           refine normP_ (some 49) ?_
           refine pP_ 18 (some 52) (b_ 22 524287) HT ?_
           refine pP_ 19 (some 53) (b_ 22 1048575) HT ?_
           refine pP_ 20 (some 54) (b_ 22 2097151) HT ?_
           refine pP_ 21 (some 33) (b_ 22 4194303) HT ?_
           refine done_ (done_of HT.out (by kernel_rfl)) ?_
           try go_wp2
           go_meet
           case rel => exact ⟨_, ((!(t472 == a0_1) || (!(t473 == a0_2) || (!(t474 == a0_3) || (!(t475 == a0_4)))))), rl_, H', ⟨by have := HJ3.out; first | omega | exact Nat.le_refl _⟩, ⟨blkU_ BK459.out⟩, ⟨blkU_ BK460.out⟩, ⟨bel_⟩⟩
          ·rw [if_neg c23] at H
           exact absurd H (by simp)
         ·rw [if_neg c22] at H
          exact absurd H (by simp)
        ·replace c20 := Bool.eq_false_iff.mpr c20
         subst c20
         rw [if_neg (show ¬ (false = true) by decide)] at H
         have H' := Aside0.mk H
         clear H
         try go_wp2
         replace BK459 := a_ (blk_drew BK459.out)
         replace BK460 := a_ (blk_drew BK460.out)
         replace HB := a_ (below_drew1 HB.out)
         refine start_ (n := 22) (S := fun w' => hd5_ w' gb459 (.int .i64 a0_0) (.int .u64 a0_1) (.int .u64 a0_2) (.int .u64 a0_3) (.int .u64 a0_4)) (ds := []) #[false, false, false, false, false, false, false, false, false, false, false, false, false, false, false, false, false, false, false, false, false, false] (by kernel_rfl) rfl rfl (hc5_ BK459.out) (fun hHeld => ?_); refine with_tabW impl_GrowthCheck.tab7 impl_GrowthCheck.bits7 (fun HT HW_ => ?_)
         generalize w14.drew = w29 at BK459 BK460 HB hHeld ⊢
         refine pP_ 0 (some 34) (b_ 22 1) HT ?_
         refine pP_ 1 (some 35) (b_ 22 3) HT ?_
         refine pP_ 2 (some 36) (b_ 22 7) HT ?_
         refine pP_ 3 (some 37) (b_ 22 15) HT ?_
         refine takeP_ 4 (some 38) (b_ 22 31) HT HW_ hHeld ?_
         refine oneP_ 5 (some 39) (b_ 22 63) HT (fun K hK => ?_)
         refine goN_ Try.func68 #[.string (⟨#[]⟩ : ByteArray)] ?_
         with_reducible refine (impl_HashOf.calls kj3 (⟨#[]⟩ : ByteArray) t463 t464 t465 t466 _ A16.out).mono ?_
         rintro e w30 ⟨rfl, hb⟩
         refine ⟨_, rfl, ?_⟩
         replace BK459 := bb_ BK459.out hb
         replace BK460 := bb_ BK460.out hb
         replace HB := stepB_ hb
         (try clear hb)
         refine hK.out _ _ (hc5_ BK459.out) (fun hHeld => ?_)
         clear hK K
         refine normP_ (some 39) ?_
         refine pP_ 6 (some 40) (b_ 22 127) HT ?_
         refine pP_ 7 (some 41) (b_ 22 255) HT ?_
         refine pP_ 8 (some 42) (b_ 22 511) HT ?_
         refine pP_ 9 (some 43) (b_ 22 1023) HT ?_
         refine pP_ 10 (some 44) (b_ 22 2047) HT ?_
         refine pureU_ 11 (some 45) (b_ 22 4095) HT ?_
         refine pureU_ 12 (some 46) (b_ 22 8191) HT ?_
         refine pureU_ 13 (some 47) (b_ 22 16383) HT ?_
         refine pureU_ 14 (some 48) (b_ 22 32767) HT ?_
         refine pureU_ 15 (some 49) (b_ 22 65535) HT ?_
         refine pureU_ 16 (some 50) (b_ 22 131071) HT ?_
         refine pureU_ 17 (some 51) (b_ 22 262143) HT ?_
         refine pureU_ 18 (some 52) (b_ 22 524287) HT ?_
         refine pP_ 19 (some 53) (b_ 22 1048575) HT ?_
         refine pP_ 20 (some 54) (b_ 22 2097151) HT ?_
         refine pP_ 21 (some 33) (b_ 22 4194303) HT ?_
         refine done_ (done_of HT.out (by kernel_rfl)) ?_
         try go_wp2
         go_meet
         case rel => exact ⟨_, (false), rl_, H', ⟨by have := HJ3.out; first | omega | exact Nat.le_refl _⟩, ⟨blkU_ BK459.out⟩, ⟨blkU_ BK460.out⟩, ⟨bel_⟩⟩
      ·rw [if_neg c15] at H
       have c15b0 := beq_eq_false_iff_ne.mpr c15
       have c15b1 := bne_iff_ne.mpr c15
       (first | rw [c15b0] | (simp only [i64_w, i32_w]; rw [c15b0]) | skip)
       by_cases c31 : x9_3 = true
       ·subst c31
        rw [if_pos rfl] at H
        obtain ⟨t476, A32, H⟩ := bnd_ H
        by_cases c33 : 0 ≤ t476
        ·rw [if_pos c33] at H
         have c33b0 := eq_true c33
         have c33b1 := decide_eq_true c33
         clear c33
         by_cases c34 : t476 ≤ (l2.length : Int)
         ·rw [if_pos c34] at H
          have c34b0 := eq_true c34
          have c34b1 := decide_eq_true c34
          clear c34
          obtain ⟨y477, hy477⟩ : ∃ y_ : List (S29), y_ = (l2.take (t476 : Int).toNat) := ⟨_, rfl⟩
          replace H : ((impl_PeaksRoot.f kj3 y477).bind fun bt481 => (impl_GrowthCheck.j1 kj3 l2 a0_0 a1_0 true (!(bt481.1 == a0_1) || (!(bt481.2.1 == a0_2) || (!(bt481.2.2.1 == a0_3) || (!(bt481.2.2.2 == a0_4))))) a0_0 a0_1 a0_2 a0_3 a0_4 a1_0 a1_1 a1_2 a1_3 a1_4)) = some r := rpl_ hy477 H
          have Ny477 := Aside0.mk hy477
          clear hy477
          obtain ⟨⟨t481, t482, t483, t484⟩, A35, H⟩ := bnd_ H
          dsimp only at H
          have H' := Aside0.mk H
          clear H
          try go_wp2
          replace BK459 := a_ (blk_drew BK459.out)
          replace BK460 := a_ (blk_drew BK460.out)
          replace HB := a_ (below_drew1 HB.out)
          refine start_ (n := 22) (S := fun w' => hd5_ w' gb459 (.int .i64 a0_0) (.int .u64 a0_1) (.int .u64 a0_2) (.int .u64 a0_3) (.int .u64 a0_4)) (ds := []) #[false, false, false, false, false, false, false, false, false, false, false, false, false, false, false, false, false, false, false, false, false, false] (by kernel_rfl) rfl rfl (hc5_ BK459.out) (fun hHeld => ?_); refine with_tabW impl_GrowthCheck.tab7 impl_GrowthCheck.bits7 (fun HT HW_ => ?_)
          generalize w14.drew = w36 at BK459 BK460 HB hHeld ⊢
          refine pP_ 0 (some 34) (b_ 22 1) HT ?_
          refine pP_ 1 (some 35) (b_ 22 3) HT ?_
          refine pP_ 2 (some 36) (b_ 22 7) HT ?_
          refine pureU_ 3 (some 37) (b_ 22 15) HT ?_
          refine pureU_ 4 (some 38) (b_ 22 31) HT ?_
          refine pureU_ 5 (some 39) (b_ 22 63) HT ?_
          refine pureU_ 6 (some 40) (b_ 22 127) HT ?_
          refine pP_ 7 (some 41) (b_ 22 255) HT ?_
          refine pP_ 8 (some 42) (b_ 22 511) HT ?_
          refine pP_ 9 (some 43) (b_ 22 1023) HT ?_
          refine pP_ 10 (some 44) (b_ 22 2047) HT ?_
          refine pP_ 11 (some 45) (b_ 22 4095) HT ?_
          refine pP_ 12 (some 46) (b_ 22 8191) HT ?_
          refine pP_ 16 (some 50) (b_ 22 73727) HT ?_
          refine takeP_ 17 (some 51) (b_ 22 204799) HT HW_ hHeld ?_
          refine oneP_ 13 (some 47) (b_ 22 212991) HT (fun K hK => ?_)
          refine goN_ Try.func55 #[.int .i64 a0_0] ?_
          with_reducible refine (impl_PeaksCount.calls a0_0 t476 _ A32.out).mono ?_
          rintro e w' ⟨rfl, ⟨nd, rfl⟩⟩
          refine ⟨_, rfl, ?_⟩
          have q37 : (t476 : Int) ≤ ((l2.length : Int) : Int) := ofd_
          obtain ⟨i037, hi037, _, hsz37, _⟩ := info_parts info29
          have hroom37 : l2.length ≤ c2 := HC2.out
          have hC37 : Kd.C k29 _ A2 l2.length l2 := HR2.out
          have hcut37 := cut_to (P := Try.prog) 49 29 .i64 Try.underlying49 hi037 A2 l2.length c2 t476 (ofd_) q37 hroom37
          have hr37 := Kd.C_take (m := (t476 : Int).toNat) hC37 (by omega)
          have hy37 : y477.length = (t476 : Int).toNat := (by rw [Ny477.out, List.length_take]; omega)
          rw [← Ny477.out] at hr37
          rw [← hy37] at hcut37
          have HR480 := Aside0.mk hr37
          have HC480 := a_ (show y477.length ≤ c2 from by omega)
          clear hr37 hC37 hroom37 hi037 hsz37
          have KY37 := Aside0.mk hy37
          clear hy37
          replace q37 := eq_true q37
          refine hK.out _ _ (hc5_ BK459.out) (fun hHeld => ?_)
          clear hK K
          refine normP_ (some 47) ?_
          refine pP_ 14 (some 48) (b_ 22 229375) HT ?_
          refine oneP_ 15 (some 49) (b_ 22 262143) HT (fun K hK => ?_)
          refine goN_ Try.func69 #[.slice A2 y477.length c2] ?_
          with_reducible refine (impl_PeaksRoot.calls kj3 _ _ y477 t481 t482 t483 t484 _ ?side1 ?side2 A35.out).mono ?_
          (case side1 => exact cU_ (Kd.C_below HR480.out bel_))
          (case side2 => exact HC480.out)
          rintro e w38 ⟨rfl, hb⟩
          refine ⟨_, rfl, ?_⟩
          replace BK459 := bb_ BK459.out hb
          replace BK460 := bb_ BK460.out hb
          replace HB := stepB_ hb
          (try clear hb)
          refine hK.out _ _ (hc5_ BK459.out) (fun hHeld => ?_)
          clear hK K
          refine normP_ (some 49) ?_
          refine pP_ 18 (some 52) (b_ 22 524287) HT ?_
          refine pP_ 19 (some 53) (b_ 22 1048575) HT ?_
          refine pP_ 20 (some 54) (b_ 22 2097151) HT ?_
          refine pP_ 21 (some 33) (b_ 22 4194303) HT ?_
          refine done_ (done_of HT.out (by kernel_rfl)) ?_
          try go_wp2
          go_meet
          case rel => exact ⟨_, ((!(t481 == a0_1) || (!(t482 == a0_2) || (!(t483 == a0_3) || (!(t484 == a0_4)))))), rl_, H', ⟨by have := HJ3.out; first | omega | exact Nat.le_refl _⟩, ⟨blkU_ BK459.out⟩, ⟨blkU_ BK460.out⟩, ⟨bel_⟩⟩
         ·rw [if_neg c34] at H
          exact absurd H (by simp)
        ·rw [if_neg c33] at H
         exact absurd H (by simp)
       ·replace c31 := Bool.eq_false_iff.mpr c31
        subst c31
        rw [if_neg (show ¬ (false = true) by decide)] at H
        have H' := Aside0.mk H
        clear H
        try go_wp2
        replace BK459 := a_ (blk_drew BK459.out)
        replace BK460 := a_ (blk_drew BK460.out)
        replace HB := a_ (below_drew1 HB.out)
        refine start_ (n := 22) (S := fun w' => True) (ds := []) #[false, false, false, false, false, false, false, false, false, false, false, false, false, false, false, false, false, false, false, false, false, false] (by kernel_rfl) rfl rfl trivial (fun hHeld => ?_); refine with_tabW impl_GrowthCheck.tab7 impl_GrowthCheck.bits7 (fun HT HW_ => ?_)
        generalize w14.drew = w39 at BK459 BK460 HB hHeld ⊢
        refine pP_ 0 (some 34) (b_ 22 1) HT ?_
        refine pP_ 1 (some 35) (b_ 22 3) HT ?_
        refine pP_ 2 (some 36) (b_ 22 7) HT ?_
        refine pureU_ 3 (some 37) (b_ 22 15) HT ?_
        refine pureU_ 4 (some 38) (b_ 22 31) HT ?_
        refine pureU_ 5 (some 39) (b_ 22 63) HT ?_
        refine pureU_ 6 (some 40) (b_ 22 127) HT ?_
        refine pP_ 7 (some 41) (b_ 22 255) HT ?_
        refine pP_ 8 (some 42) (b_ 22 511) HT ?_
        refine pP_ 9 (some 43) (b_ 22 1023) HT ?_
        refine pP_ 10 (some 44) (b_ 22 2047) HT ?_
        refine pureU_ 11 (some 45) (b_ 22 4095) HT ?_
        refine pureU_ 12 (some 46) (b_ 22 8191) HT ?_
        refine pureU_ 13 (some 47) (b_ 22 16383) HT ?_
        refine pureU_ 14 (some 48) (b_ 22 32767) HT ?_
        refine pureU_ 15 (some 49) (b_ 22 65535) HT ?_
        refine pureU_ 16 (some 50) (b_ 22 131071) HT ?_
        refine pureU_ 17 (some 51) (b_ 22 262143) HT ?_
        refine pureU_ 18 (some 52) (b_ 22 524287) HT ?_
        refine pP_ 19 (some 53) (b_ 22 1048575) HT ?_
        refine pP_ 20 (some 54) (b_ 22 2097151) HT ?_
        refine pP_ 21 (some 33) (b_ 22 4194303) HT ?_
        refine done_ (done_of HT.out (by kernel_rfl)) ?_
        try go_wp2
        go_meet
        case rel => exact ⟨_, (false), rl_, H', ⟨by have := HJ3.out; first | omega | exact Nat.le_refl _⟩, ⟨blkU_ BK459.out⟩, ⟨blkU_ BK460.out⟩, ⟨bel_⟩⟩
     case rest =>
      clear HC13
      (try clear c2); (try clear c15); (try clear c15b0); (try clear c15b1); (try clear c20); (try clear c22); (try clear c31); (try clear c33); (try clear c33b0); (try clear c33b1); (try clear c34); (try clear c34b0); (try clear c34b1); (try clear q37)
      obtain ⟨kq, x33_12, rfl, HA, HJ12, BK459, BK460, HB⟩ := hcut
      cases kq with
      | zero => exact absurd HA.out (by simp [impl_GrowthCheck.j1])
      | succ kj12 =>
       have H := HA.out
       clear HA
       simp only [impl_GrowthCheck.j1] at H
       by_cases c40 : x33_12 = true
       ·subst c40
        rw [if_pos rfl] at H
        obtain rfl := Option.some.inj H
        go_wp2
        go_ret
        exact ⟨rfl_, bel_⟩
       ·replace c40 := Bool.eq_false_iff.mpr c40
        subst c40
        rw [if_neg (show ¬ (false = true) by decide)] at H
        by_cases c41 : a0_0 = a1_0
        ·rw [if_pos c41] at H
         have c41b0 := beq_iff_eq.mpr c41
         have c41b1 := bne_eq_false_iff_eq.mpr c41
         clear c41
         by_cases c42 : (!(a0_1 == a1_1) || (!(a0_2 == a1_2) || (!(a0_3 == a1_3) || (!(a0_4 == a1_4))))) = true
         ·rw [if_pos c42] at H
          have c42b0 : (!(a0_1 == a1_1) || (!(a0_2 == a1_2) || (!(a0_3 == a1_3) || (!(a0_4 == a1_4))))) = true := c42
          clear c42
          obtain rfl := Option.some.inj H
          try go_wp2
          replace BK459 := a_ (blk_drew BK459.out)
          replace BK460 := a_ (blk_drew BK460.out)
          replace HB := a_ (below_drew1 HB.out)
          refine start_ (n := 26) (S := fun w' => hdc5_ w' gb459 (.int .i64 a0_0) (.int .u64 a0_1) (.int .u64 a0_2) (.int .u64 a0_3) (.int .u64 a0_4) (hd5_ w' gb460 (.int .i64 a1_0) (.int .u64 a1_1) (.int .u64 a1_2) (.int .u64 a1_3) (.int .u64 a1_4))) (ds := []) #[false, false, false, false, false, false, false, false, false, false, false, false, false, false, false, false, false, false, false, false, false, false, false, false, false, false] (by kernel_rfl) rfl rfl (hcc5_ BK459.out (hc5_ BK460.out)) (fun hHeld => ?_); refine with_tabW impl_GrowthCheck.tab9 impl_GrowthCheck.bits9 (fun HT HW_ => ?_)
          generalize wc.drew = w43 at BK459 BK460 HB hHeld ⊢
          refine pP_ 0 (some 56) (b_ 26 1) HT ?_
          refine pP_ 1 (some 57) (b_ 26 3) HT ?_
          refine pP_ 2 (some 58) (b_ 26 7) HT ?_
          refine pP_ 3 (some 59) (b_ 26 15) HT ?_
          refine pP_ 4 (some 60) (b_ 26 31) HT ?_
          refine pP_ 6 (some 62) (b_ 26 95) HT ?_
          refine takeP_ 5 (some 61) (b_ 26 127) HT HW_ hHeld ?_
          refine takeP_ 7 (some 63) (b_ 26 255) HT HW_ hHeld ?_
          refine pP_ 8 (some 64) (b_ 26 511) HT ?_
          refine pP_ 9 (some 65) (b_ 26 1023) HT ?_
          refine pP_ 10 (some 66) (b_ 26 2047) HT ?_
          refine pureU_ 11 (some 67) (b_ 26 4095) HT ?_
          refine pureU_ 12 (some 68) (b_ 26 8191) HT ?_
          refine pureU_ 13 (some 69) (b_ 26 16383) HT ?_
          refine pureU_ 14 (some 70) (b_ 26 32767) HT ?_
          refine pureU_ 15 (some 71) (b_ 26 65535) HT ?_
          refine pureU_ 16 (some 72) (b_ 26 131071) HT ?_
          refine pureU_ 17 (some 73) (b_ 26 262143) HT ?_
          refine pureU_ 18 (some 74) (b_ 26 524287) HT ?_
          refine pureU_ 19 (some 75) (b_ 26 1048575) HT ?_
          refine pureU_ 20 (some 76) (b_ 26 2097151) HT ?_
          refine pureU_ 21 (some 77) (b_ 26 4194303) HT ?_
          refine pureU_ 22 (some 78) (b_ 26 8388607) HT ?_
          refine pureU_ 23 (some 79) (b_ 26 16777215) HT ?_
          refine pP_ 24 (some 80) (b_ 26 33554431) HT ?_
          refine pP_ 25 (some 55) (b_ 26 67108863) HT ?_
          refine done_ (done_of HT.out (by kernel_rfl)) ?_
          try go_wp2
          go_ret
          exact ⟨rfl_, bel_⟩
         ·rw [if_neg c42] at H
          have c42b0 : (!(a0_1 == a1_1) || (!(a0_2 == a1_2) || (!(a0_3 == a1_3) || (!(a0_4 == a1_4))))) = false := by simpa using c42
          clear c42
          by_cases c44 : x9_3 = true
          ·subst c44
           rw [if_pos rfl] at H
           obtain ⟨t485, A45, H⟩ := bnd_ H
           obtain ⟨⟨t486, t487, t488, t489⟩, A46, H⟩ := bnd_ H
           dsimp only at H
           by_cases c47 : (!(t486 == a1_1) || (!(t487 == a1_2) || (!(t488 == a1_3) || (!(t489 == a1_4))))) = true
           ·rw [if_pos c47] at H
            have c47b0 : (!(t486 == a1_1) || (!(t487 == a1_2) || (!(t488 == a1_3) || (!(t489 == a1_4))))) = true := c47
            clear c47
            obtain rfl := Option.some.inj H
            try go_wp2
            replace BK459 := a_ (blk_drew BK459.out)
            replace BK460 := a_ (blk_drew BK460.out)
            replace HB := a_ (below_drew1 HB.out)
            refine start_ (n := 26) (S := fun w' => hdc5_ w' gb459 (.int .i64 a0_0) (.int .u64 a0_1) (.int .u64 a0_2) (.int .u64 a0_3) (.int .u64 a0_4) (hd5_ w' gb460 (.int .i64 a1_0) (.int .u64 a1_1) (.int .u64 a1_2) (.int .u64 a1_3) (.int .u64 a1_4))) (ds := []) #[false, false, false, false, false, false, false, false, false, false, false, false, false, false, false, false, false, false, false, false, false, false, false, false, false, false] (by kernel_rfl) rfl rfl (hcc5_ BK459.out (hc5_ BK460.out)) (fun hHeld => ?_); refine with_tabW impl_GrowthCheck.tab9 impl_GrowthCheck.bits9 (fun HT HW_ => ?_)
            generalize wc.drew = w48 at BK459 BK460 HB hHeld ⊢
            refine pP_ 0 (some 56) (b_ 26 1) HT ?_
            refine pP_ 1 (some 57) (b_ 26 3) HT ?_
            refine pP_ 2 (some 58) (b_ 26 7) HT ?_
            refine pP_ 3 (some 59) (b_ 26 15) HT ?_
            refine pP_ 4 (some 60) (b_ 26 31) HT ?_
            refine pP_ 6 (some 62) (b_ 26 95) HT ?_
            refine takeP_ 5 (some 61) (b_ 26 127) HT HW_ hHeld ?_
            refine takeP_ 7 (some 63) (b_ 26 255) HT HW_ hHeld ?_
            refine pP_ 8 (some 64) (b_ 26 511) HT ?_
            refine pP_ 9 (some 65) (b_ 26 1023) HT ?_
            refine pP_ 10 (some 66) (b_ 26 2047) HT ?_
            refine pP_ 11 (some 67) (b_ 26 4095) HT ?_
            refine pP_ 12 (some 68) (b_ 26 8191) HT ?_
            refine pP_ 13 (some 69) (b_ 26 16383) HT ?_
            refine pP_ 14 (some 70) (b_ 26 32767) HT ?_
            refine pP_ 15 (some 71) (b_ 26 65535) HT ?_
            refine pP_ 17 (some 73) (b_ 26 196607) HT ?_
            refine pP_ 18 (some 74) (b_ 26 458751) HT ?_
            refine pP_ 20 (some 76) (b_ 26 1507327) HT ?_
            refine takeP_ 21 (some 77) (b_ 26 3604479) HT HW_ hHeld ?_
            refine oneP_ 16 (some 72) (b_ 26 3670015) HT (fun K hK => ?_)
            refine goN_ Try.func71 #[.int .i64 a0_0, .int .i64 a1_0, .slice A2 l2.length c2] ?_
            with_reducible refine (impl_known.calls kj12 a0_0 a1_0 _ _ l2 t485 _ ?side1 ?side2 A45.out).mono ?_
            (case side1 => exact cU_ (Kd.C_below HR2.out HB.out))
            (case side2 => exact HC2.out)
            rintro e w49 ⟨gm_, rfl, hgm_, ⟨gn_, him_⟩, hb⟩
            refine ⟨_, rfl, ?_⟩
            have HM := Aside0.mk him_
            clear him_
            replace BK459 := bb_ BK459.out hb
            replace BK460 := bb_ BK460.out hb
            replace HB := stepB_ hb
            (try clear hb)
            refine hK.out _ _ (hcc5_ BK459.out (hc5_ BK460.out)) (fun hHeld => ?_)
            clear hK K
            refine normP_ (some 72) ?_
            refine oneP_ 19 (some 75) (b_ 26 4194303) HT (fun K hK => ?_)
            refine goN_ Try.func70 #[.map (some gm_), .agg #[.int .i64 0, .int .i64 a1_0]] ?_
            with_reducible refine (impl_digestBy.calls kj12 t485 0 a1_0 t486 t487 t488 t489 _ gm_ gn_ (isU_ HM.out) A46.out).mono ?_
            rintro e w50 ⟨rfl, hb⟩
            refine ⟨_, rfl, ?_⟩
            replace BK459 := bb_ BK459.out hb
            replace BK460 := bb_ BK460.out hb
            replace HB := stepB_ hb
            (try clear hb)
            refine hK.out _ _ (hcc5_ BK459.out (hc5_ BK460.out)) (fun hHeld => ?_)
            clear hK K
            refine normP_ (some 75) ?_
            refine pP_ 22 (some 78) (b_ 26 8388607) HT ?_
            refine pP_ 23 (some 79) (b_ 26 16777215) HT ?_
            refine pP_ 24 (some 80) (b_ 26 33554431) HT ?_
            refine pP_ 25 (some 55) (b_ 26 67108863) HT ?_
            refine done_ (done_of HT.out (by kernel_rfl)) ?_
            try go_wp2
            go_ret
            exact ⟨rfl_, bel_⟩
           ·rw [if_neg c47] at H
            have c47b0 : (!(t486 == a1_1) || (!(t487 == a1_2) || (!(t488 == a1_3) || (!(t489 == a1_4))))) = false := by simpa using c47
            clear c47
            obtain rfl := Option.some.inj H
            try go_wp2
            replace BK459 := a_ (blk_drew BK459.out)
            replace BK460 := a_ (blk_drew BK460.out)
            replace HB := a_ (below_drew1 HB.out)
            refine start_ (n := 26) (S := fun w' => hdc5_ w' gb459 (.int .i64 a0_0) (.int .u64 a0_1) (.int .u64 a0_2) (.int .u64 a0_3) (.int .u64 a0_4) (hd5_ w' gb460 (.int .i64 a1_0) (.int .u64 a1_1) (.int .u64 a1_2) (.int .u64 a1_3) (.int .u64 a1_4))) (ds := []) #[false, false, false, false, false, false, false, false, false, false, false, false, false, false, false, false, false, false, false, false, false, false, false, false, false, false] (by kernel_rfl) rfl rfl (hcc5_ BK459.out (hc5_ BK460.out)) (fun hHeld => ?_); refine with_tabW impl_GrowthCheck.tab9 impl_GrowthCheck.bits9 (fun HT HW_ => ?_)
            generalize wc.drew = w51 at BK459 BK460 HB hHeld ⊢
            refine pP_ 0 (some 56) (b_ 26 1) HT ?_
            refine pP_ 1 (some 57) (b_ 26 3) HT ?_
            refine pP_ 2 (some 58) (b_ 26 7) HT ?_
            refine pP_ 3 (some 59) (b_ 26 15) HT ?_
            refine pP_ 4 (some 60) (b_ 26 31) HT ?_
            refine pP_ 6 (some 62) (b_ 26 95) HT ?_
            refine takeP_ 5 (some 61) (b_ 26 127) HT HW_ hHeld ?_
            refine takeP_ 7 (some 63) (b_ 26 255) HT HW_ hHeld ?_
            refine pP_ 8 (some 64) (b_ 26 511) HT ?_
            refine pP_ 9 (some 65) (b_ 26 1023) HT ?_
            refine pP_ 10 (some 66) (b_ 26 2047) HT ?_
            refine pP_ 11 (some 67) (b_ 26 4095) HT ?_
            refine pP_ 12 (some 68) (b_ 26 8191) HT ?_
            refine pP_ 13 (some 69) (b_ 26 16383) HT ?_
            refine pP_ 14 (some 70) (b_ 26 32767) HT ?_
            refine pP_ 15 (some 71) (b_ 26 65535) HT ?_
            refine pP_ 17 (some 73) (b_ 26 196607) HT ?_
            refine pP_ 18 (some 74) (b_ 26 458751) HT ?_
            refine pP_ 20 (some 76) (b_ 26 1507327) HT ?_
            refine takeP_ 21 (some 77) (b_ 26 3604479) HT HW_ hHeld ?_
            refine oneP_ 16 (some 72) (b_ 26 3670015) HT (fun K hK => ?_)
            refine goN_ Try.func71 #[.int .i64 a0_0, .int .i64 a1_0, .slice A2 l2.length c2] ?_
            with_reducible refine (impl_known.calls kj12 a0_0 a1_0 _ _ l2 t485 _ ?side1 ?side2 A45.out).mono ?_
            (case side1 => exact cU_ (Kd.C_below HR2.out HB.out))
            (case side2 => exact HC2.out)
            rintro e w52 ⟨gm_, rfl, hgm_, ⟨gn_, him_⟩, hb⟩
            refine ⟨_, rfl, ?_⟩
            have HM := Aside0.mk him_
            clear him_
            replace BK459 := bb_ BK459.out hb
            replace BK460 := bb_ BK460.out hb
            replace HB := stepB_ hb
            (try clear hb)
            refine hK.out _ _ (hcc5_ BK459.out (hc5_ BK460.out)) (fun hHeld => ?_)
            clear hK K
            refine normP_ (some 72) ?_
            refine oneP_ 19 (some 75) (b_ 26 4194303) HT (fun K hK => ?_)
            refine goN_ Try.func70 #[.map (some gm_), .agg #[.int .i64 0, .int .i64 a1_0]] ?_
            with_reducible refine (impl_digestBy.calls kj12 t485 0 a1_0 t486 t487 t488 t489 _ gm_ gn_ (isU_ HM.out) A46.out).mono ?_
            rintro e w53 ⟨rfl, hb⟩
            refine ⟨_, rfl, ?_⟩
            replace BK459 := bb_ BK459.out hb
            replace BK460 := bb_ BK460.out hb
            replace HB := stepB_ hb
            (try clear hb)
            refine hK.out _ _ (hcc5_ BK459.out (hc5_ BK460.out)) (fun hHeld => ?_)
            clear hK K
            refine normP_ (some 75) ?_
            refine pP_ 22 (some 78) (b_ 26 8388607) HT ?_
            refine pP_ 23 (some 79) (b_ 26 16777215) HT ?_
            refine pP_ 24 (some 80) (b_ 26 33554431) HT ?_
            refine pP_ 25 (some 55) (b_ 26 67108863) HT ?_
            refine done_ (done_of HT.out (by kernel_rfl)) ?_
            try go_wp2
            go_ret
            exact ⟨rfl_, bel_⟩
          ·replace c44 := Bool.eq_false_iff.mpr c44
           subst c44
           rw [if_neg (show ¬ (false = true) by decide)] at H
           obtain rfl := Option.some.inj H
           try go_wp2
           replace BK459 := a_ (blk_drew BK459.out)
           replace BK460 := a_ (blk_drew BK460.out)
           replace HB := a_ (below_drew1 HB.out)
           refine start_ (n := 26) (S := fun w' => hdc5_ w' gb459 (.int .i64 a0_0) (.int .u64 a0_1) (.int .u64 a0_2) (.int .u64 a0_3) (.int .u64 a0_4) (hd5_ w' gb460 (.int .i64 a1_0) (.int .u64 a1_1) (.int .u64 a1_2) (.int .u64 a1_3) (.int .u64 a1_4))) (ds := []) #[false, false, false, false, false, false, false, false, false, false, false, false, false, false, false, false, false, false, false, false, false, false, false, false, false, false] (by kernel_rfl) rfl rfl (hcc5_ BK459.out (hc5_ BK460.out)) (fun hHeld => ?_); refine with_tabW impl_GrowthCheck.tab9 impl_GrowthCheck.bits9 (fun HT HW_ => ?_)
           generalize wc.drew = w54 at BK459 BK460 HB hHeld ⊢
           refine pP_ 0 (some 56) (b_ 26 1) HT ?_
           refine pP_ 1 (some 57) (b_ 26 3) HT ?_
           refine pP_ 2 (some 58) (b_ 26 7) HT ?_
           refine pP_ 3 (some 59) (b_ 26 15) HT ?_
           refine pP_ 4 (some 60) (b_ 26 31) HT ?_
           refine pP_ 6 (some 62) (b_ 26 95) HT ?_
           refine takeP_ 5 (some 61) (b_ 26 127) HT HW_ hHeld ?_
           refine takeP_ 7 (some 63) (b_ 26 255) HT HW_ hHeld ?_
           refine pP_ 8 (some 64) (b_ 26 511) HT ?_
           refine pP_ 9 (some 65) (b_ 26 1023) HT ?_
           refine pP_ 10 (some 66) (b_ 26 2047) HT ?_
           refine pP_ 11 (some 67) (b_ 26 4095) HT ?_
           refine pP_ 12 (some 68) (b_ 26 8191) HT ?_
           refine pureU_ 13 (some 69) (b_ 26 16383) HT ?_
           refine pureU_ 14 (some 70) (b_ 26 32767) HT ?_
           refine pureU_ 15 (some 71) (b_ 26 65535) HT ?_
           refine pureU_ 16 (some 72) (b_ 26 131071) HT ?_
           refine pureU_ 17 (some 73) (b_ 26 262143) HT ?_
           refine pureU_ 18 (some 74) (b_ 26 524287) HT ?_
           refine pureU_ 19 (some 75) (b_ 26 1048575) HT ?_
           refine pureU_ 20 (some 76) (b_ 26 2097151) HT ?_
           refine pureU_ 21 (some 77) (b_ 26 4194303) HT ?_
           refine pureU_ 22 (some 78) (b_ 26 8388607) HT ?_
           refine pP_ 23 (some 79) (b_ 26 16777215) HT ?_
           refine pP_ 24 (some 80) (b_ 26 33554431) HT ?_
           refine pP_ 25 (some 55) (b_ 26 67108863) HT ?_
           refine done_ (done_of HT.out (by kernel_rfl)) ?_
           try go_wp2
           go_ret
           exact ⟨rfl_, bel_⟩
        ·rw [if_neg c41] at H
         have c41b0 := beq_eq_false_iff_ne.mpr c41
         have c41b1 := bne_iff_ne.mpr c41
         by_cases c55 : x9_3 = true
         ·subst c55
          rw [if_pos rfl] at H
          obtain ⟨t490, A56, H⟩ := bnd_ H
          obtain ⟨⟨t491, t492, t493, t494⟩, A57, H⟩ := bnd_ H
          dsimp only at H
          by_cases c58 : (!(t491 == a1_1) || (!(t492 == a1_2) || (!(t493 == a1_3) || (!(t494 == a1_4))))) = true
          ·rw [if_pos c58] at H
           have c58b0 : (!(t491 == a1_1) || (!(t492 == a1_2) || (!(t493 == a1_3) || (!(t494 == a1_4))))) = true := c58
           clear c58
           obtain rfl := Option.some.inj H
           try go_wp2
           replace BK459 := a_ (blk_drew BK459.out)
           replace BK460 := a_ (blk_drew BK460.out)
           replace HB := a_ (below_drew1 HB.out)
           refine start_ (n := 26) (S := fun w' => hd5_ w' gb460 (.int .i64 a1_0) (.int .u64 a1_1) (.int .u64 a1_2) (.int .u64 a1_3) (.int .u64 a1_4)) (ds := []) #[false, false, false, false, false, false, false, false, false, false, false, false, false, false, false, false, false, false, false, false, false, false, false, false, false, false] (by kernel_rfl) rfl rfl (hc5_ BK460.out) (fun hHeld => ?_); refine with_tabW impl_GrowthCheck.tab9 impl_GrowthCheck.bits9 (fun HT HW_ => ?_)
           generalize wc.drew = w59 at BK459 BK460 HB hHeld ⊢
           refine pP_ 0 (some 56) (b_ 26 1) HT ?_
           refine pP_ 1 (some 57) (b_ 26 3) HT ?_
           refine pP_ 2 (some 58) (b_ 26 7) HT ?_
           refine pP_ 3 (some 59) (b_ 26 15) HT ?_
           refine pureU_ 4 (some 60) (b_ 26 31) HT ?_
           refine pureU_ 5 (some 61) (b_ 26 63) HT ?_
           refine pureU_ 6 (some 62) (b_ 26 127) HT ?_
           refine pureU_ 7 (some 63) (b_ 26 255) HT ?_
           refine pureU_ 8 (some 64) (b_ 26 511) HT ?_
           refine pP_ 9 (some 65) (b_ 26 1023) HT ?_
           refine pP_ 10 (some 66) (b_ 26 2047) HT ?_
           refine pP_ 11 (some 67) (b_ 26 4095) HT ?_
           refine pP_ 12 (some 68) (b_ 26 8191) HT ?_
           refine pP_ 13 (some 69) (b_ 26 16383) HT ?_
           refine pP_ 14 (some 70) (b_ 26 32767) HT ?_
           refine pP_ 15 (some 71) (b_ 26 65535) HT ?_
           refine pP_ 17 (some 73) (b_ 26 196607) HT ?_
           refine pP_ 18 (some 74) (b_ 26 458751) HT ?_
           refine pP_ 20 (some 76) (b_ 26 1507327) HT ?_
           refine takeP_ 21 (some 77) (b_ 26 3604479) HT HW_ hHeld ?_
           refine oneP_ 16 (some 72) (b_ 26 3670015) HT (fun K hK => ?_)
           refine goN_ Try.func71 #[.int .i64 a0_0, .int .i64 a1_0, .slice A2 l2.length c2] ?_
           with_reducible refine (impl_known.calls kj12 a0_0 a1_0 _ _ l2 t490 _ ?side1 ?side2 A56.out).mono ?_
           (case side1 => exact cU_ (Kd.C_below HR2.out HB.out))
           (case side2 => exact HC2.out)
           rintro e w60 ⟨gm_, rfl, hgm_, ⟨gn_, him_⟩, hb⟩
           refine ⟨_, rfl, ?_⟩
           have HM := Aside0.mk him_
           clear him_
           replace BK459 := bb_ BK459.out hb
           replace BK460 := bb_ BK460.out hb
           replace HB := stepB_ hb
           (try clear hb)
           refine hK.out _ _ (hc5_ BK460.out) (fun hHeld => ?_)
           clear hK K
           refine normP_ (some 72) ?_
           refine oneP_ 19 (some 75) (b_ 26 4194303) HT (fun K hK => ?_)
           refine goN_ Try.func70 #[.map (some gm_), .agg #[.int .i64 0, .int .i64 a1_0]] ?_
           with_reducible refine (impl_digestBy.calls kj12 t490 0 a1_0 t491 t492 t493 t494 _ gm_ gn_ (isU_ HM.out) A57.out).mono ?_
           rintro e w61 ⟨rfl, hb⟩
           refine ⟨_, rfl, ?_⟩
           replace BK459 := bb_ BK459.out hb
           replace BK460 := bb_ BK460.out hb
           replace HB := stepB_ hb
           (try clear hb)
           refine hK.out _ _ (hc5_ BK460.out) (fun hHeld => ?_)
           clear hK K
           refine normP_ (some 75) ?_
           refine pP_ 22 (some 78) (b_ 26 8388607) HT ?_
           refine pP_ 23 (some 79) (b_ 26 16777215) HT ?_
           refine pP_ 24 (some 80) (b_ 26 33554431) HT ?_
           refine pP_ 25 (some 55) (b_ 26 67108863) HT ?_
           refine done_ (done_of HT.out (by kernel_rfl)) ?_
           try go_wp2
           go_ret
           exact ⟨rfl_, bel_⟩
          ·rw [if_neg c58] at H
           have c58b0 : (!(t491 == a1_1) || (!(t492 == a1_2) || (!(t493 == a1_3) || (!(t494 == a1_4))))) = false := by simpa using c58
           clear c58
           obtain rfl := Option.some.inj H
           try go_wp2
           replace BK459 := a_ (blk_drew BK459.out)
           replace BK460 := a_ (blk_drew BK460.out)
           replace HB := a_ (below_drew1 HB.out)
           refine start_ (n := 26) (S := fun w' => hd5_ w' gb460 (.int .i64 a1_0) (.int .u64 a1_1) (.int .u64 a1_2) (.int .u64 a1_3) (.int .u64 a1_4)) (ds := []) #[false, false, false, false, false, false, false, false, false, false, false, false, false, false, false, false, false, false, false, false, false, false, false, false, false, false] (by kernel_rfl) rfl rfl (hc5_ BK460.out) (fun hHeld => ?_); refine with_tabW impl_GrowthCheck.tab9 impl_GrowthCheck.bits9 (fun HT HW_ => ?_)
           generalize wc.drew = w62 at BK459 BK460 HB hHeld ⊢
           refine pP_ 0 (some 56) (b_ 26 1) HT ?_
           refine pP_ 1 (some 57) (b_ 26 3) HT ?_
           refine pP_ 2 (some 58) (b_ 26 7) HT ?_
           refine pP_ 3 (some 59) (b_ 26 15) HT ?_
           refine pureU_ 4 (some 60) (b_ 26 31) HT ?_
           refine pureU_ 5 (some 61) (b_ 26 63) HT ?_
           refine pureU_ 6 (some 62) (b_ 26 127) HT ?_
           refine pureU_ 7 (some 63) (b_ 26 255) HT ?_
           refine pureU_ 8 (some 64) (b_ 26 511) HT ?_
           refine pP_ 9 (some 65) (b_ 26 1023) HT ?_
           refine pP_ 10 (some 66) (b_ 26 2047) HT ?_
           refine pP_ 11 (some 67) (b_ 26 4095) HT ?_
           refine pP_ 12 (some 68) (b_ 26 8191) HT ?_
           refine pP_ 13 (some 69) (b_ 26 16383) HT ?_
           refine pP_ 14 (some 70) (b_ 26 32767) HT ?_
           refine pP_ 15 (some 71) (b_ 26 65535) HT ?_
           refine pP_ 17 (some 73) (b_ 26 196607) HT ?_
           refine pP_ 18 (some 74) (b_ 26 458751) HT ?_
           refine pP_ 20 (some 76) (b_ 26 1507327) HT ?_
           refine takeP_ 21 (some 77) (b_ 26 3604479) HT HW_ hHeld ?_
           refine oneP_ 16 (some 72) (b_ 26 3670015) HT (fun K hK => ?_)
           refine goN_ Try.func71 #[.int .i64 a0_0, .int .i64 a1_0, .slice A2 l2.length c2] ?_
           with_reducible refine (impl_known.calls kj12 a0_0 a1_0 _ _ l2 t490 _ ?side1 ?side2 A56.out).mono ?_
           (case side1 => exact cU_ (Kd.C_below HR2.out HB.out))
           (case side2 => exact HC2.out)
           rintro e w63 ⟨gm_, rfl, hgm_, ⟨gn_, him_⟩, hb⟩
           refine ⟨_, rfl, ?_⟩
           have HM := Aside0.mk him_
           clear him_
           replace BK459 := bb_ BK459.out hb
           replace BK460 := bb_ BK460.out hb
           replace HB := stepB_ hb
           (try clear hb)
           refine hK.out _ _ (hc5_ BK460.out) (fun hHeld => ?_)
           clear hK K
           refine normP_ (some 72) ?_
           refine oneP_ 19 (some 75) (b_ 26 4194303) HT (fun K hK => ?_)
           refine goN_ Try.func70 #[.map (some gm_), .agg #[.int .i64 0, .int .i64 a1_0]] ?_
           with_reducible refine (impl_digestBy.calls kj12 t490 0 a1_0 t491 t492 t493 t494 _ gm_ gn_ (isU_ HM.out) A57.out).mono ?_
           rintro e w64 ⟨rfl, hb⟩
           refine ⟨_, rfl, ?_⟩
           replace BK459 := bb_ BK459.out hb
           replace BK460 := bb_ BK460.out hb
           replace HB := stepB_ hb
           (try clear hb)
           refine hK.out _ _ (hc5_ BK460.out) (fun hHeld => ?_)
           clear hK K
           refine normP_ (some 75) ?_
           refine pP_ 22 (some 78) (b_ 26 8388607) HT ?_
           refine pP_ 23 (some 79) (b_ 26 16777215) HT ?_
           refine pP_ 24 (some 80) (b_ 26 33554431) HT ?_
           refine pP_ 25 (some 55) (b_ 26 67108863) HT ?_
           refine done_ (done_of HT.out (by kernel_rfl)) ?_
           try go_wp2
           go_ret
           exact ⟨rfl_, bel_⟩
         ·replace c55 := Bool.eq_false_iff.mpr c55
          subst c55
          rw [if_neg (show ¬ (false = true) by decide)] at H
          obtain rfl := Option.some.inj H
          try go_wp2
          replace BK459 := a_ (blk_drew BK459.out)
          replace BK460 := a_ (blk_drew BK460.out)
          replace HB := a_ (below_drew1 HB.out)
          refine start_ (n := 26) (S := fun w' => True) (ds := []) #[false, false, false, false, false, false, false, false, false, false, false, false, false, false, false, false, false, false, false, false, false, false, false, false, false, false] (by kernel_rfl) rfl rfl trivial (fun hHeld => ?_); refine with_tabW impl_GrowthCheck.tab9 impl_GrowthCheck.bits9 (fun HT HW_ => ?_)
          generalize wc.drew = w65 at BK459 BK460 HB hHeld ⊢
          refine pP_ 0 (some 56) (b_ 26 1) HT ?_
          refine pP_ 1 (some 57) (b_ 26 3) HT ?_
          refine pP_ 2 (some 58) (b_ 26 7) HT ?_
          refine pP_ 3 (some 59) (b_ 26 15) HT ?_
          refine pureU_ 4 (some 60) (b_ 26 31) HT ?_
          refine pureU_ 5 (some 61) (b_ 26 63) HT ?_
          refine pureU_ 6 (some 62) (b_ 26 127) HT ?_
          refine pureU_ 7 (some 63) (b_ 26 255) HT ?_
          refine pureU_ 8 (some 64) (b_ 26 511) HT ?_
          refine pP_ 9 (some 65) (b_ 26 1023) HT ?_
          refine pP_ 10 (some 66) (b_ 26 2047) HT ?_
          refine pP_ 11 (some 67) (b_ 26 4095) HT ?_
          refine pP_ 12 (some 68) (b_ 26 8191) HT ?_
          refine pureU_ 13 (some 69) (b_ 26 16383) HT ?_
          refine pureU_ 14 (some 70) (b_ 26 32767) HT ?_
          refine pureU_ 15 (some 71) (b_ 26 65535) HT ?_
          refine pureU_ 16 (some 72) (b_ 26 131071) HT ?_
          refine pureU_ 17 (some 73) (b_ 26 262143) HT ?_
          refine pureU_ 18 (some 74) (b_ 26 524287) HT ?_
          refine pureU_ 19 (some 75) (b_ 26 1048575) HT ?_
          refine pureU_ 20 (some 76) (b_ 26 2097151) HT ?_
          refine pureU_ 21 (some 77) (b_ 26 4194303) HT ?_
          refine pureU_ 22 (some 78) (b_ 26 8388607) HT ?_
          refine pP_ 23 (some 79) (b_ 26 16777215) HT ?_
          refine pP_ 24 (some 80) (b_ 26 33554431) HT ?_
          refine pP_ 25 (some 55) (b_ 26 67108863) HT ?_
          refine done_ (done_of HT.out (by kernel_rfl)) ?_
          try go_wp2
          go_ret
          exact ⟨rfl_, bel_⟩
    ·rw [if_neg c12] at H
     have c12b0 := beq_eq_false_iff_ne.mpr c12
     have c12b1 := bne_iff_ne.mpr c12
     obtain rfl := Option.some.inj H
     go_wp2_with (first | (refine gcL_ 62 (some 24) Try.func62 #[.int .i64 a0_0, .int .i64 a1_0] ?_; (with_reducible refine (impl_mayGrow.calls a0_0 a1_0 true _ A9.out).mono ?_); rintro e w' ⟨rfl, ⟨nd, rfl⟩⟩; refine ⟨_, rfl, ?_⟩) | (refine gcL_ 31 (some 31) Try.func31 #[.int .i64 a0_0, .int .i64 a1_0] ?_; (with_reducible refine (impl_GrowthLen.calls kj3 a0_0 a1_0 t462 _ A11.out).mono ?_); rintro e w66 ⟨rfl, hb⟩; refine ⟨_, rfl, ?_⟩; replace BK459 := bb_ BK459.out hb; replace BK460 := bb_ BK460.out hb; replace HB := stepB_ hb; (try clear hb)))
     go_ret
     exact ⟨rfl_, bel_⟩
   ·replace c10 := Bool.eq_false_iff.mpr c10
    subst c10
    rw [if_neg (show ¬ (false = true) by decide)] at H
    obtain rfl := Option.some.inj H
    go_wp2_with (first | (refine gcL_ 62 (some 24) Try.func62 #[.int .i64 a0_0, .int .i64 a1_0] ?_; (with_reducible refine (impl_mayGrow.calls a0_0 a1_0 false _ A9.out).mono ?_); rintro e w' ⟨rfl, ⟨nd, rfl⟩⟩; refine ⟨_, rfl, ?_⟩))
    go_ret
    exact ⟨rfl_, bel_⟩
end
end Go.Proofs.Ytflckegggopdnaa.B
