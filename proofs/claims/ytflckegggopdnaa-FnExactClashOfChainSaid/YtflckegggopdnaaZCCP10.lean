/- Texts that this claim's law leans on, without what nothing names. What each says stands at its theorems; conditions stand in them. (Put together by the session's program shake.py; Lean checks it.) -/
import Derived.Test.YtflckegggopdnaaZCCP0
import Derived.Test.YtflckegggopdnaaZCCP2
import Derived.Test.YtflckegggopdnaaZCCP5
import Derived.Test.YtflckegggopdnaaZCCP4
import Derived.Test.YtflckegggopdnaaZCCP6
import Derived.Test.YtflckegggopdnaaZCCP9
import Derived.Test.YtflckegggopdnaaZCCP17
set_option linter.unusedVariables false
set_option maxHeartbeats 8000000
set_option maxRecDepth 100000
set_option linter.unusedSimpArgs false
namespace Go.Proofs.Ytflckegggopdnaa.B
section
open Go.RowKit Go.Proofs.YtflckegggopdnaaW
section
attribute [local go_sem high] eqA29
mutual
def impl_GrowthCheck.j0 : Nat → List (S29) → Int → Int → Bool → Int → Int → Int → Int → Int → Int → Int → Int → Int → Int → Option (Int)
 | 0, _, _, _, _, _, _, _, _, _, _, _, _, _, _ => none
 | k + 1, x0, x1, x6, x7, x8, x2, x3, x4, x5, x9, x10, x11, x12, x13 => (impl_mayGrow.f x1 x6).bind fun t2 => (if t2 = true then ((impl_GrowthLen.f k x1 x6).bind fun t3 => (if (x0.length : Int) = t3 then (if x1 = 0 then ((impl_HashOf.f k (⟨#[]⟩ : ByteArray)).bind fun bt0 => (if (!(x2 == bt0.1) || (!(x3 == bt0.2.1) || (!(x4 == bt0.2.2.1) || (!(x5 == bt0.2.2.2))))) = true then (impl_GrowthCheck.j1 k x0 x1 x6 x7 true x8 x2 x3 x4 x5 x9 x10 x11 x12 x13) else (if x7 = true then ((impl_PeaksCount.f x1).bind fun t0 => (if 0 ≤ t0 then (if t0 ≤ (x0.length : Int) then ((impl_PeaksRoot.f k (x0.take (t0 : Int).toNat)).bind fun bt1 => (impl_GrowthCheck.j1 k x0 x1 x6 x7 (!(bt1.1 == x2) || (!(bt1.2.1 == x3) || (!(bt1.2.2.1 == x4) || (!(bt1.2.2.2 == x5))))) x8 x2 x3 x4 x5 x9 x10 x11 x12 x13)) else (none)) else (none))) else (impl_GrowthCheck.j1 k x0 x1 x6 x7 false x8 x2 x3 x4 x5 x9 x10 x11 x12 x13)))) else (if x7 = true then ((impl_PeaksCount.f x1).bind fun t1 => (if 0 ≤ t1 then (if t1 ≤ (x0.length : Int) then ((impl_PeaksRoot.f k (x0.take (t1 : Int).toNat)).bind fun bt2 => (impl_GrowthCheck.j1 k x0 x1 x6 x7 (!(bt2.1 == x2) || (!(bt2.2.1 == x3) || (!(bt2.2.2.1 == x4) || (!(bt2.2.2.2 == x5))))) x8 x2 x3 x4 x5 x9 x10 x11 x12 x13)) else (none)) else (none))) else (impl_GrowthCheck.j1 k x0 x1 x6 x7 false x8 x2 x3 x4 x5 x9 x10 x11 x12 x13))) else (some 2))) else (some 1))
def impl_GrowthCheck.j1 : Nat → List (S29) → Int → Int → Bool → Bool → Int → Int → Int → Int → Int → Int → Int → Int → Int → Int → Option (Int)
 | 0, _, _, _, _, _, _, _, _, _, _, _, _, _, _, _ => none
 | k + 1, x6, x5, x0, x7, x8, x13, x9, x10, x11, x12, x14, x1, x2, x3, x4 => if x8 = true then (some 3) else (if x5 = x0 then (if (!(x9 == x1) || (!(x10 == x2) || (!(x11 == x3) || (!(x12 == x4))))) = true then (some 4) else (if x7 = true then ((impl_known.f k x5 x0 x6).bind fun t0 => ((impl_digestBy.f k t0 0 x0).bind fun bt0 => (if (!(bt0.1 == x1) || (!(bt0.2.1 == x2) || (!(bt0.2.2.1 == x3) || (!(bt0.2.2.2 == x4))))) = true then (some 4) else (some 0)))) else (some 0))) else (if x7 = true then ((impl_known.f k x5 x0 x6).bind fun t1 => ((impl_digestBy.f k t1 0 x0).bind fun bt1 => (if (!(bt1.1 == x1) || (!(bt1.2.1 == x2) || (!(bt1.2.2.1 == x3) || (!(bt1.2.2.2 == x4))))) = true then (some 4) else (some 0)))) else (some 0)))
end
def impl_GrowthCheck.f (k : Nat) (a0 a2 a3 a4 a5 a1 a6 a7 a8 a9 : Int) (l2 : List (S29)) : Option (Int) := if a0 > 0 then (impl_GrowthCheck.j0 k l2 a0 a1 (decide (a0 < a1)) a0 a2 a3 a4 a5 a1 a6 a7 a8 a9) else (impl_GrowthCheck.j0 k l2 a0 a1 false a0 a2 a3 a4 a5 a1 a6 a7 a8 a9)
def impl_GrowthCheck.T7 : TT_ := (true, [([], []), ([0], [0]), ([1], [1]), ([2], [2]), ([3, 2], [2, 3]), ([2, 2], [2]), ([4, 5, 2], [2, 4, 5]), ([2, 6], [2, 6]), ([7, 5], [7]), ([8], [8]), ([9, 8, 8], [8, 9]), ([10], [10]), ([10], [10]), ([12, 10, 10], [10, 12]), ([11, 13, 10], [10, 11, 13]), ([14, 13, 10], [10, 14]), ([10], [10]), ([16, 10], [10, 16]), ([15, 17, 10], [10, 15, 17]), ([10, 18, 8], [8, 10, 18]), ([8, 19], [8, 19]), ([20, 15], [20])])
def impl_GrowthCheck.B7 : List Nat := [0, 1, 3, 7, 15, 7, 63, 127, 255, 511, 1023, 2047, 2047, 6143, 16383, 32767, 2047, 67583, 262143, 524287, 1048575, 2097151]
theorem impl_GrowthCheck.tab7 : rtab .any (opsOf Try.f33 7) = impl_GrowthCheck.T7 := by kernel_rfl
theorem impl_GrowthCheck.bits7 : waitsOk impl_GrowthCheck.T7.2 impl_GrowthCheck.B7 = true := by kernel_rfl
def impl_GrowthCheck.T9 : TT_ := (true, [([], []), ([], []), ([0, 1], [0, 1]), ([2], [2]), ([3], [3]), ([4, 3], [3, 4]), ([3], [3]), ([6, 3], [3, 6]), ([5, 7, 3], [3, 5, 7]), ([3, 8], [3, 8]), ([9, 3], [9]), ([10], [10]), ([11, 10, 10], [10, 11]), ([12], [12]), ([12], [12]), ([12], [12]), ([13, 14, 15, 12, 12], [12, 13, 14, 15]), ([12], [12]), ([17, 12], [12, 17]), ([16, 18, 16, 12], [12, 16, 18]), ([12], [12]), ([20, 12], [12, 20]), ([19, 21, 12], [12, 19, 21]), ([12, 22, 10], [10, 12, 22]), ([10, 23], [10, 23]), ([24, 19], [24])])
def impl_GrowthCheck.B9 : List Nat := [0, 0, 3, 7, 15, 31, 15, 79, 255, 511, 1023, 2047, 4095, 8191, 8191, 8191, 65535, 8191, 139263, 524287, 8191, 1056767, 4194303, 8388607, 16777215, 33554431]
theorem impl_GrowthCheck.tab9 : rtab .any (opsOf Try.f33 9) = impl_GrowthCheck.T9 := by kernel_rfl
theorem impl_GrowthCheck.bits9 : waitsOk impl_GrowthCheck.T9.2 impl_GrowthCheck.B9 = true := by kernel_rfl
theorem impl_GrowthCheck.calls (k : Nat) (a0 a2 a3 a4 a5 a1 a6 a7 a8 a9 : Int) (A0 : Option Addr) (c2 : Nat) (l2 : List (S29)) (r : Int) (w : World) (hr2 : Kd.C k29 w A0 l2.length l2) (hc2 : l2.length ≤ c2) (h : impl_GrowthCheck.f k a0 a2 a3 a4 a5 a1 a6 a7 a8 a9 l2 = some r) :
  Calls Try.prog 33 #[.agg #[.int .i64 a0, .int .u64 a2, .int .u64 a3, .int .u64 a4, .int .u64 a5], .agg #[.int .i64 a1, .int .u64 a6, .int .u64 a7, .int .u64 a8, .int .u64 a9], .slice A0 l2.length c2] w fun e w' => e = .returned (.int .i64 r) ∧ Below w.heap.size w w' := by
 have hu31 := Try.underlying31
 have hu29 := Try.underlying29
 have hu100 := Try.underlying100
 have HR2 := a_ hr2
 have HC2 := a_ hc2
 clear hr2 hc2
 have HB := rB_ w
 have H := h
 unfold impl_GrowthCheck.f at H
 clear h
 have HC4 := a_ H
 clear H
 go_enter Try.func33, Try.ntmps33
 try go_wp2_with (first | (refine bx_ 3 #[.int .i64 a0, .int .u64 a2, .int .u64 a3, .int .u64 a4, .int .u64 a5] 31 ?_; intro gb0 w17 hg hb BK0 GW0; replace HB := s_ hb; clear hb hg) | (refine bx_ 4 #[.int .i64 a1, .int .u64 a6, .int .u64 a7, .int .u64 a8, .int .u64 a9] 31 ?_; intro gb1 w2 hg hb BK1 GW1; replace HB := s_ hb; obtain ⟨NB0, NB1⟩ := ne2_ BK0.out hg; replace BK0 := bb_ BK0.out hb; clear hb hg))
 replace BK0 := a_ (blk_drew BK0.out)
 replace BK1 := a_ (blk_drew BK1.out)
 replace HB := a_ (below_drew1 HB.out)
 refine start_ (n := 6) (S := fun w' => hdc5_ w' gb0 (.int .i64 a0) (.int .u64 a2) (.int .u64 a3) (.int .u64 a4) (.int .u64 a5) (hd5_ w' gb1 (.int .i64 a1) (.int .u64 a6) (.int .u64 a7) (.int .u64 a8) (.int .u64 a9))) (ds := []) #[false, false, false, false, false, false] (by kernel_rfl) rfl rfl (hcc5_ BK0.out (hc5_ BK1.out)) (fun hHeld => ?_)
 generalize w2.drew = w30 at BK0 BK1 HB hHeld ⊢
 refine pure_ (i := 0) (N := some 10) (v := ?_) (a' := ?_) #[true, false, false, false, false, false] rfl rfl (by kernel_rfl) (fun _ _ _ h => h) (Or.inl ⟨by rfl, ?_⟩) ?_ ?_
 rotate_left
 ·intro w'
  go_simp
  with_reducible rfl
 rotate_left
 ·simp only [Act.put, List.setIfInBounds_toArray, List.set_cons_zero, List.set_cons_succ, i64_w, i32_w]
  rfl
 refine pure_ (i := 2) (N := some 12) (v := ?_) (a' := ?_) #[true, false, true, false, false, false] rfl rfl (by kernel_rfl) (fun _ _ _ h => h) (Or.inl ⟨by rfl, ?_⟩) ?_ ?_
 rotate_left
 ·intro w'
  go_simp
  with_reducible rfl
 rotate_left
 ·simp only [Act.put, List.setIfInBounds_toArray, List.set_cons_zero, List.set_cons_succ, i64_w, i32_w]
  rfl
 refine take_ (i := 1) (N := some 11) (v := ?_) (a' := ?_) #[true, true, true, false, false, false] rfl rfl (by kernel_rfl) (fun _ _ _ h => h) (Or.inl ⟨by rfl, ?_⟩) hHeld ?_ ?_
 rotate_left
 ·rintro w' ⟨s0, s1, s2, s3, s4, s5, s6, s7, s8, s9⟩
  go_simp
  with_reducible rfl
 rotate_left
 ·simp only [Act.put, List.setIfInBounds_toArray, List.set_cons_zero, List.set_cons_succ, i64_w, i32_w]
  rfl
 refine pure_ (i := 4) (N := some 7) (v := ?_) (a' := ?_) #[true, true, true, false, true, false] rfl rfl (by kernel_rfl) (fun _ _ _ h => h) (Or.inl ⟨by rfl, ?_⟩) ?_ ?_
 rotate_left
 ·intro w'
  go_simp
  with_reducible rfl
 rotate_left
 ·simp only [Act.put, List.setIfInBounds_toArray, List.set_cons_zero, List.set_cons_succ, i64_w, i32_w]
  rfl
 refine take_ (i := 3) (N := some 13) (v := ?_) (a' := ?_) #[true, true, true, true, true, false] rfl rfl (by kernel_rfl) (fun _ _ _ h => h) (Or.inl ⟨by rfl, ?_⟩) hHeld ?_ ?_
 rotate_left
 ·rintro w' ⟨s0, s1, s2, s3, s4, s5, s6, s7, s8, s9⟩
  go_simp
  with_reducible rfl
 rotate_left
 ·simp only [Act.put, List.setIfInBounds_toArray, List.set_cons_zero, List.set_cons_succ, i64_w, i32_w]
  rfl
 refine pure_ (i := 5) (N := some 8) (v := ?_) (a' := ?_) #[true, true, true, true, true, true] rfl rfl (by kernel_rfl) (fun _ _ _ h => h) (Or.inl ⟨by rfl, ?_⟩) ?_ ?_
 rotate_left
 ·intro w'
  go_simp
  with_reducible rfl
 rotate_left
 ·simp only [Act.put, List.setIfInBounds_toArray, List.set_cons_zero, List.set_cons_succ, i64_w, i32_w]
  rfl
 refine done_ (by kernel_rfl) ?_
 go_upto_region 2 with (fail)
 go_cut [9] (fun v1 wc => ∃ (kq : Nat) (x0 : Bool), v1 = .bool x0 ∧ Aside0 (impl_GrowthCheck.j0 kq l2 a0 a1 x0 a0 a2 a3 a4 a5 a1 a6 a7 a8 a9 = some r) ∧ Aside0 (kq ≤ k) ∧ Aside0 (wc.heap[gb0]? = some (.cells #[.int .i64 a0, .int .u64 a2, .int .u64 a3, .int .u64 a4, .int .u64 a5] 31 (0, 0))) ∧ Aside0 (wc.heap[gb1]? = some (.cells #[.int .i64 a1, .int .u64 a6, .int .u64 a7, .int .u64 a8, .int .u64 a9] 31 (0, 0))) ∧ Aside0 (Below w.heap.size w wc))
 case first =>
  have H := HC4.out
  clear HC4
  by_cases c8 : a0 > 0
  ·rw [if_pos c8] at H
   have c17 : decide (0 < a0) = true := decide_eq_true c8
   clear c8
   (first | rw [c17] | (simp only [i64_w, i32_w]; rw [c17]) | skip)
   have H' := a_ H
   clear H
   go_wp2
   go_meet
   case rel => exact ⟨_, (decide (a0 < a1)), rl_, H', ⟨by first | omega | exact Nat.le_refl _⟩, ⟨blkU_ BK0.out⟩, ⟨blkU_ BK1.out⟩, ⟨bel_⟩⟩
  ·rw [if_neg c8] at H
   have c17 : decide (0 < a0) = false := decide_eq_false c8
   clear c8
   (first | rw [c17] | (simp only [i64_w, i32_w]; rw [c17]) | skip)
   have H' := a_ H
   clear H
   go_wp2
   go_meet
   case rel => exact ⟨_, (false), rl_, H', ⟨by first | omega | exact Nat.le_refl _⟩, ⟨blkU_ BK0.out⟩, ⟨blkU_ BK1.out⟩, ⟨bel_⟩⟩
 case rest =>
  clear HC4
  (try clear c2); (try clear c8); (try clear c17)
  obtain ⟨kq, x0, rfl, HA, HJ3, BK0, BK1, HB⟩ := hcut
  cases kq with
  | zero => exact absurd HA.out (by simp [impl_GrowthCheck.j0])
  | succ kj0 =>
   have H := HA.out
   clear HA
   simp only [impl_GrowthCheck.j0] at H
   obtain ⟨t14, A2, H⟩ := bnd_ H
   by_cases c10 : t14 = true
   ·subst c10
    rw [if_pos rfl] at H
    obtain ⟨t15, A3, H⟩ := bnd_ H
    by_cases c1 : (l2.length : Int) = t15
    ·rw [if_pos c1] at H
     have c28 := beq_iff_eq.mpr c1
     have c29 := bne_eq_false_iff_eq.mpr c1
     clear c1
     have HC13 := a_ H
     clear H
     go_upto_region 7 with (first | (refine gcD_ 62 24 Try.func62 (impl_mayGrow.calls _ _ _ _ A2.out) ?_; intro nd) | (refine gcB_ 31 31 Try.func31 (impl_GrowthLen.calls _ _ _ _ _ A3.out) ?_; intro w1 hb; replace BK0 := bb_ BK0.out hb; replace BK1 := bb_ BK1.out hb; replace HB := s_ hb; clear hb))
     (try simp only [Act.put, List.setIfInBounds_toArray, List.set_cons_zero, List.set_cons_succ])
     go_cut [33] (fun v0 wc => ∃ (kq : Nat) (x1 : Bool), v0 = .bool x1 ∧ Aside0 (impl_GrowthCheck.j1 kq l2 a0 a1 x0 x1 a0 a2 a3 a4 a5 a1 a6 a7 a8 a9 = some r) ∧ Aside0 (kq ≤ kj0) ∧ Aside0 (wc.heap[gb0]? = some (.cells #[.int .i64 a0, .int .u64 a2, .int .u64 a3, .int .u64 a4, .int .u64 a5] 31 (0, 0))) ∧ Aside0 (wc.heap[gb1]? = some (.cells #[.int .i64 a1, .int .u64 a6, .int .u64 a7, .int .u64 a8, .int .u64 a9] 31 (0, 0))) ∧ Aside0 (Below w.heap.size w wc))
     case first =>
      have H := HC13.out
      clear HC13
      by_cases c0 : a0 = 0
      ·rw [if_pos c0] at H
       have c12 := beq_iff_eq.mpr c0
       have c27 := bne_eq_false_iff_eq.mpr c0
       clear c0
       (first | rw [c12] | (simp only [i64_w, i32_w]; rw [c12]) | skip)
       obtain ⟨⟨t2, t3, t4, t5⟩, A1, H⟩ := bnd_ H
       dsimp only at H
       by_cases c13 : (!(a2 == t2) || (!(a3 == t3) || (!(a4 == t4) || (!(a5 == t5))))) = true
       ·rw [if_pos c13] at H
        have c30 : (!(a2 == t2) || (!(a3 == t3) || (!(a4 == t4) || (!(a5 == t5))))) = true := c13
        clear c13
        have H' := a_ H
        clear H
        try go_wp2
        replace BK0 := a_ (blk_drew BK0.out)
        replace BK1 := a_ (blk_drew BK1.out)
        replace HB := a_ (below_drew1 HB.out)
        refine start_ (n := 22) (S := fun w' => hd5_ w' gb0 (.int .i64 a0) (.int .u64 a2) (.int .u64 a3) (.int .u64 a4) (.int .u64 a5)) (ds := []) #[false, false, false, false, false, false, false, false, false, false, false, false, false, false, false, false, false, false, false, false, false, false] (by kernel_rfl) rfl rfl (hc5_ BK0.out) (fun hHeld => ?_); refine with_tabW impl_GrowthCheck.tab7 impl_GrowthCheck.bits7 (fun HT HW_ => ?_)
        generalize w1.drew = w3 at BK0 BK1 HB hHeld ⊢
        refine qP_ 0 34 22 1 ?_
        refine qP_ 1 35 22 3 ?_
        refine qP_ 2 36 22 7 ?_
        refine qP_ 3 37 22 15 ?_
        refine qT_ 4 38 22 31 ?_
        refine oneP_ 5 (some 39) (b_ 22 63) HT (fun K hK => ?_)
        refine goN_ Try.func68 #[.string (⟨#[]⟩ : ByteArray)] ?_
        with_reducible refine (impl_HashOf.calls _ _ _ _ _ _ _ A1.out).mono ?_
        rintro e w4 ⟨rfl, hb⟩
        refine ⟨_, rfl, ?_⟩
        replace BK0 := bb_ BK0.out hb
        replace BK1 := bb_ BK1.out hb
        replace HB := s_ hb
        (try clear hb)
        refine hK.out _ _ (hc5_ BK0.out) (fun hHeld => ?_)
        clear hK K
        refine normP_ (some 39) ?_
        refine qP_ 6 40 22 127 ?_
        refine qP_ 7 41 22 255 ?_
        refine qP_ 8 42 22 511 ?_
        refine qU_ 9 43 22 1023 ?_
        refine qU_ 10 44 22 2047 ?_
        refine qU_ 11 45 22 4095 ?_
        refine qU_ 12 46 22 8191 ?_
        refine qU_ 13 47 22 16383 ?_
        refine qU_ 14 48 22 32767 ?_
        refine qU_ 15 49 22 65535 ?_
        refine qU_ 16 50 22 131071 ?_
        refine qU_ 17 51 22 262143 ?_
        refine qU_ 18 52 22 524287 ?_
        refine qU_ 19 53 22 1048575 ?_
        refine qP_ 20 54 22 2097151 ?_
        refine qP_ 21 33 22 4194303 ?_
        refine done_ (done_of HT.out (by kernel_rfl)) ?_
        try go_wp2
        go_meet
        case rel => exact ⟨_, (true), rl_, H', ⟨by have := HJ3.out; first | omega | exact Nat.le_refl _⟩, ⟨blkU_ BK0.out⟩, ⟨blkU_ BK1.out⟩, ⟨bel_⟩⟩
       ·rw [if_neg c13] at H
        have c30 : (!(a2 == t2) || (!(a3 == t3) || (!(a4 == t4) || (!(a5 == t5))))) = false := by simpa using c13
        clear c13
        by_cases c18 : x0 = true
        ·subst c18
         rw [if_pos rfl] at H
         obtain ⟨t0, A8, H⟩ := bnd_ H
         obtain ⟨c20, H⟩ := ifn_ H
         have c40 := eq_true c20
         have c41 := decide_eq_true c20
         clear c20
         obtain ⟨c26, H⟩ := ifn_ H
         have c42 := eq_true c26
         have c43 := decide_eq_true c26
         clear c26
         obtain ⟨y0, hy2⟩ : ∃ y_ : List (S29), y_ = (l2.take (t0 : Int).toNat) := ⟨_, rfl⟩
         replace H : ((impl_PeaksRoot.f kj0 y0).bind fun bt0 => (impl_GrowthCheck.j1 kj0 l2 a0 a1 true (!(bt0.1 == a2) || (!(bt0.2.1 == a3) || (!(bt0.2.2.1 == a4) || (!(bt0.2.2.2 == a5))))) a0 a2 a3 a4 a5 a1 a6 a7 a8 a9)) = some r := rpl_ hy2 H
         have Ny0 := a_ hy2
         clear hy2
         obtain ⟨⟨t16, t17, t18, t19⟩, A9, H⟩ := bnd_ H
         dsimp only at H
         have H' := a_ H
         clear H
         try go_wp2
         replace BK0 := a_ (blk_drew BK0.out)
         replace BK1 := a_ (blk_drew BK1.out)
         replace HB := a_ (below_drew1 HB.out)
         refine start_ (n := 22) (S := fun w' => hd5_ w' gb0 (.int .i64 a0) (.int .u64 a2) (.int .u64 a3) (.int .u64 a4) (.int .u64 a5)) (ds := []) #[false, false, false, false, false, false, false, false, false, false, false, false, false, false, false, false, false, false, false, false, false, false] (by kernel_rfl) rfl rfl (hc5_ BK0.out) (fun hHeld => ?_); refine with_tabW impl_GrowthCheck.tab7 impl_GrowthCheck.bits7 (fun HT HW_ => ?_)
         generalize w1.drew = w5 at BK0 BK1 HB hHeld ⊢
         refine qP_ 0 34 22 1 ?_
         refine qP_ 1 35 22 3 ?_
         refine qP_ 2 36 22 7 ?_
         refine qP_ 3 37 22 15 ?_
         refine qT_ 4 38 22 31 ?_
         refine oneP_ 5 (some 39) (b_ 22 63) HT (fun K hK => ?_)
         refine goN_ Try.func68 #[.string (⟨#[]⟩ : ByteArray)] ?_
         with_reducible refine (impl_HashOf.calls _ _ _ _ _ _ _ A1.out).mono ?_
         rintro e w6 ⟨rfl, hb⟩
         refine ⟨_, rfl, ?_⟩
         replace BK0 := bb_ BK0.out hb
         replace BK1 := bb_ BK1.out hb
         replace HB := s_ hb
         (try clear hb)
         refine hK.out _ _ (hc5_ BK0.out) (fun hHeld => ?_)
         clear hK K
         refine normP_ (some 39) ?_
         refine qP_ 6 40 22 127 ?_
         refine qP_ 7 41 22 255 ?_
         refine qP_ 8 42 22 511 ?_
         refine qP_ 9 43 22 1023 ?_
         refine qP_ 10 44 22 2047 ?_
         refine qP_ 11 45 22 4095 ?_
         refine qP_ 12 46 22 8191 ?_
         refine qP_ 16 50 22 73727 ?_
         refine qT_ 17 51 22 204799 ?_
         refine oneP_ 13 (some 47) (b_ 22 212991) HT (fun K hK => ?_)
         refine goN_ Try.func55 #[.int .i64 a0] ?_
         with_reducible refine (impl_PeaksCount.calls _ _ _ A8.out).mono ?_
         rintro e w' ⟨rfl, ⟨nd, rfl⟩⟩
         refine ⟨_, rfl, ?_⟩
         have q1 : (t0 : Int) ≤ ((l2.length : Int) : Int) := ofd_
         obtain ⟨i027, hi0, _, hsz27, _⟩ := info_parts info29
         have hroom27 : l2.length ≤ c2 := HC2.out
         have hC27 : Kd.C k29 _ A0 l2.length l2 := HR2.out
         have hcut27 := cut_to (P := Try.prog) 49 29 .i64 Try.underlying49 hi0 A0 l2.length c2 t0 (ofd_) q1 hroom27
         have hr27 := Kd.C_take (m := (t0 : Int).toNat) hC27 (by omega)
         have hy0 : y0.length = (t0 : Int).toNat := (by rw [Ny0.out, List.length_take]; omega)
         rw [← Ny0.out] at hr27
         rw [← hy0] at hcut27
         have HR471 := a_ hr27
         have HC471 := a_ (show y0.length ≤ c2 from by omega)
         clear hr27 hC27 hroom27 hi0 hsz27
         have KY27 := a_ hy0
         clear hy0
         replace q1 := eq_true q1
         refine hK.out _ _ (hc5_ BK0.out) (fun hHeld => ?_)
         clear hK K
         refine normP_ (some 47) ?_
         refine qP_ 14 48 22 229375 ?_
         refine oneP_ 15 (some 49) (b_ 22 262143) HT (fun K hK => ?_)
         refine goN_ Try.func69 #[.slice A0 y0.length c2] ?_
         with_reducible refine (impl_PeaksRoot.calls _ _ _ _ _ _ _ _ _ ?side1 ?side2 A9.out).mono ?_
         (case side1 => exact cU_ (Kd.C_below HR471.out bel_))
         (case side2 => exact HC471.out)
         rintro e w7 ⟨rfl, hb⟩
         refine ⟨_, rfl, ?_⟩
         replace BK0 := bb_ BK0.out hb
         replace BK1 := bb_ BK1.out hb
         replace HB := s_ hb
         (try clear hb)
         refine hK.out _ _ (hc5_ BK0.out) (fun hHeld => ?_)
         clear hK K
         refine normP_ (some 49) ?_
         refine qP_ 18 52 22 524287 ?_
         refine qP_ 19 53 22 1048575 ?_
         refine qP_ 20 54 22 2097151 ?_
         refine qP_ 21 33 22 4194303 ?_
         refine done_ (done_of HT.out (by kernel_rfl)) ?_
         try go_wp2
         go_meet
         case rel => exact ⟨_, ((!(t16 == a2) || (!(t17 == a3) || (!(t18 == a4) || (!(t19 == a5)))))), rl_, H', ⟨by have := HJ3.out; first | omega | exact Nat.le_refl _⟩, ⟨blkU_ BK0.out⟩, ⟨blkU_ BK1.out⟩, ⟨bel_⟩⟩
        ·replace c18 := Bool.eq_false_iff.mpr c18
         subst c18
         rw [if_neg (show ¬ (false = true) by decide)] at H
         have H' := a_ H
         clear H
         try go_wp2
         replace BK0 := a_ (blk_drew BK0.out)
         replace BK1 := a_ (blk_drew BK1.out)
         replace HB := a_ (below_drew1 HB.out)
         refine start_ (n := 22) (S := fun w' => hd5_ w' gb0 (.int .i64 a0) (.int .u64 a2) (.int .u64 a3) (.int .u64 a4) (.int .u64 a5)) (ds := []) #[false, false, false, false, false, false, false, false, false, false, false, false, false, false, false, false, false, false, false, false, false, false] (by kernel_rfl) rfl rfl (hc5_ BK0.out) (fun hHeld => ?_); refine with_tabW impl_GrowthCheck.tab7 impl_GrowthCheck.bits7 (fun HT HW_ => ?_)
         generalize w1.drew = w9 at BK0 BK1 HB hHeld ⊢
         refine qP_ 0 34 22 1 ?_
         refine qP_ 1 35 22 3 ?_
         refine qP_ 2 36 22 7 ?_
         refine qP_ 3 37 22 15 ?_
         refine qT_ 4 38 22 31 ?_
         refine oneP_ 5 (some 39) (b_ 22 63) HT (fun K hK => ?_)
         refine goN_ Try.func68 #[.string (⟨#[]⟩ : ByteArray)] ?_
         with_reducible refine (impl_HashOf.calls _ _ _ _ _ _ _ A1.out).mono ?_
         rintro e w10 ⟨rfl, hb⟩
         refine ⟨_, rfl, ?_⟩
         replace BK0 := bb_ BK0.out hb
         replace BK1 := bb_ BK1.out hb
         replace HB := s_ hb
         (try clear hb)
         refine hK.out _ _ (hc5_ BK0.out) (fun hHeld => ?_)
         clear hK K
         refine normP_ (some 39) ?_
         refine qP_ 6 40 22 127 ?_
         refine qP_ 7 41 22 255 ?_
         refine qP_ 8 42 22 511 ?_
         refine qP_ 9 43 22 1023 ?_
         refine qP_ 10 44 22 2047 ?_
         refine qU_ 11 45 22 4095 ?_
         refine qU_ 12 46 22 8191 ?_
         refine qU_ 13 47 22 16383 ?_
         refine qU_ 14 48 22 32767 ?_
         refine qU_ 15 49 22 65535 ?_
         refine qU_ 16 50 22 131071 ?_
         refine qU_ 17 51 22 262143 ?_
         refine qU_ 18 52 22 524287 ?_
         refine qP_ 19 53 22 1048575 ?_
         refine qP_ 20 54 22 2097151 ?_
         refine qP_ 21 33 22 4194303 ?_
         refine done_ (done_of HT.out (by kernel_rfl)) ?_
         try go_wp2
         go_meet
         case rel => exact ⟨_, (false), rl_, H', ⟨by have := HJ3.out; first | omega | exact Nat.le_refl _⟩, ⟨blkU_ BK0.out⟩, ⟨blkU_ BK1.out⟩, ⟨bel_⟩⟩
      ·rw [if_neg c0] at H
       have c12 := beq_eq_false_iff_ne.mpr c0
       have c27 := bne_iff_ne.mpr c0
       (first | rw [c12] | (simp only [i64_w, i32_w]; rw [c12]) | skip)
       by_cases c19 : x0 = true
       ·subst c19
        rw [if_pos rfl] at H
        obtain ⟨t1, A10, H⟩ := bnd_ H
        obtain ⟨c21, H⟩ := ifn_ H
        have c31 := eq_true c21
        have c32 := decide_eq_true c21
        clear c21
        obtain ⟨c22, H⟩ := ifn_ H
        have c33 := eq_true c22
        have c34 := decide_eq_true c22
        clear c22
        obtain ⟨y1, hy3⟩ : ∃ y_ : List (S29), y_ = (l2.take (t1 : Int).toNat) := ⟨_, rfl⟩
        replace H : ((impl_PeaksRoot.f kj0 y1).bind fun bt1 => (impl_GrowthCheck.j1 kj0 l2 a0 a1 true (!(bt1.1 == a2) || (!(bt1.2.1 == a3) || (!(bt1.2.2.1 == a4) || (!(bt1.2.2.2 == a5))))) a0 a2 a3 a4 a5 a1 a6 a7 a8 a9)) = some r := rpl_ hy3 H
        have Ny1 := a_ hy3
        clear hy3
        obtain ⟨⟨t20, t21, t22, t23⟩, A11, H⟩ := bnd_ H
        dsimp only at H
        have H' := a_ H
        clear H
        try go_wp2
        replace BK0 := a_ (blk_drew BK0.out)
        replace BK1 := a_ (blk_drew BK1.out)
        replace HB := a_ (below_drew1 HB.out)
        refine start_ (n := 22) (S := fun w' => hd5_ w' gb0 (.int .i64 a0) (.int .u64 a2) (.int .u64 a3) (.int .u64 a4) (.int .u64 a5)) (ds := []) #[false, false, false, false, false, false, false, false, false, false, false, false, false, false, false, false, false, false, false, false, false, false] (by kernel_rfl) rfl rfl (hc5_ BK0.out) (fun hHeld => ?_); refine with_tabW impl_GrowthCheck.tab7 impl_GrowthCheck.bits7 (fun HT HW_ => ?_)
        generalize w1.drew = w11 at BK0 BK1 HB hHeld ⊢
        refine qP_ 0 34 22 1 ?_
        refine qP_ 1 35 22 3 ?_
        refine qP_ 2 36 22 7 ?_
        refine qU_ 3 37 22 15 ?_
        refine qU_ 4 38 22 31 ?_
        refine qU_ 5 39 22 63 ?_
        refine qU_ 6 40 22 127 ?_
        refine qP_ 7 41 22 255 ?_
        refine qP_ 8 42 22 511 ?_
        refine qP_ 9 43 22 1023 ?_
        refine qP_ 10 44 22 2047 ?_
        refine qP_ 11 45 22 4095 ?_
        refine qP_ 12 46 22 8191 ?_
        refine qP_ 16 50 22 73727 ?_
        refine qT_ 17 51 22 204799 ?_
        refine oneP_ 13 (some 47) (b_ 22 212991) HT (fun K hK => ?_)
        refine goN_ Try.func55 #[.int .i64 a0] ?_
        with_reducible refine (impl_PeaksCount.calls _ _ _ A10.out).mono ?_
        rintro e w' ⟨rfl, ⟨nd, rfl⟩⟩
        refine ⟨_, rfl, ?_⟩
        have q0 : (t1 : Int) ≤ ((l2.length : Int) : Int) := ofd_
        obtain ⟨i037, hi1, _, hsz37, _⟩ := info_parts info29
        have hroom37 : l2.length ≤ c2 := HC2.out
        have hC37 : Kd.C k29 _ A0 l2.length l2 := HR2.out
        have hcut37 := cut_to (P := Try.prog) 49 29 .i64 Try.underlying49 hi1 A0 l2.length c2 t1 (ofd_) q0 hroom37
        have hr37 := Kd.C_take (m := (t1 : Int).toNat) hC37 (by omega)
        have hy1 : y1.length = (t1 : Int).toNat := (by rw [Ny1.out, List.length_take]; omega)
        rw [← Ny1.out] at hr37
        rw [← hy1] at hcut37
        have HR480 := a_ hr37
        have HC480 := a_ (show y1.length ≤ c2 from by omega)
        clear hr37 hC37 hroom37 hi1 hsz37
        have KY37 := a_ hy1
        clear hy1
        replace q0 := eq_true q0
        refine hK.out _ _ (hc5_ BK0.out) (fun hHeld => ?_)
        clear hK K
        refine normP_ (some 47) ?_
        refine qP_ 14 48 22 229375 ?_
        refine oneP_ 15 (some 49) (b_ 22 262143) HT (fun K hK => ?_)
        refine goN_ Try.func69 #[.slice A0 y1.length c2] ?_
        with_reducible refine (impl_PeaksRoot.calls _ _ _ _ _ _ _ _ _ ?side1 ?side2 A11.out).mono ?_
        (case side1 => exact cU_ (Kd.C_below HR480.out bel_))
        (case side2 => exact HC480.out)
        rintro e w12 ⟨rfl, hb⟩
        refine ⟨_, rfl, ?_⟩
        replace BK0 := bb_ BK0.out hb
        replace BK1 := bb_ BK1.out hb
        replace HB := s_ hb
        (try clear hb)
        refine hK.out _ _ (hc5_ BK0.out) (fun hHeld => ?_)
        clear hK K
        refine normP_ (some 49) ?_
        refine qP_ 18 52 22 524287 ?_
        refine qP_ 19 53 22 1048575 ?_
        refine qP_ 20 54 22 2097151 ?_
        refine qP_ 21 33 22 4194303 ?_
        refine done_ (done_of HT.out (by kernel_rfl)) ?_
        try go_wp2
        go_meet
        case rel => exact ⟨_, ((!(t20 == a2) || (!(t21 == a3) || (!(t22 == a4) || (!(t23 == a5)))))), rl_, H', ⟨by have := HJ3.out; first | omega | exact Nat.le_refl _⟩, ⟨blkU_ BK0.out⟩, ⟨blkU_ BK1.out⟩, ⟨bel_⟩⟩
       ·replace c19 := Bool.eq_false_iff.mpr c19
        subst c19
        rw [if_neg (show ¬ (false = true) by decide)] at H
        have H' := a_ H
        clear H
        try go_wp2
        replace BK0 := a_ (blk_drew BK0.out)
        replace BK1 := a_ (blk_drew BK1.out)
        replace HB := a_ (below_drew1 HB.out)
        refine start_ (n := 22) (S := fun w' => True) (ds := []) #[false, false, false, false, false, false, false, false, false, false, false, false, false, false, false, false, false, false, false, false, false, false] (by kernel_rfl) rfl rfl trivial (fun hHeld => ?_); refine with_tabW impl_GrowthCheck.tab7 impl_GrowthCheck.bits7 (fun HT HW_ => ?_)
        generalize w1.drew = w13 at BK0 BK1 HB hHeld ⊢
        refine qP_ 0 34 22 1 ?_
        refine qP_ 1 35 22 3 ?_
        refine qP_ 2 36 22 7 ?_
        refine qU_ 3 37 22 15 ?_
        refine qU_ 4 38 22 31 ?_
        refine qU_ 5 39 22 63 ?_
        refine qU_ 6 40 22 127 ?_
        refine qP_ 7 41 22 255 ?_
        refine qP_ 8 42 22 511 ?_
        refine qP_ 9 43 22 1023 ?_
        refine qP_ 10 44 22 2047 ?_
        refine qU_ 11 45 22 4095 ?_
        refine qU_ 12 46 22 8191 ?_
        refine qU_ 13 47 22 16383 ?_
        refine qU_ 14 48 22 32767 ?_
        refine qU_ 15 49 22 65535 ?_
        refine qU_ 16 50 22 131071 ?_
        refine qU_ 17 51 22 262143 ?_
        refine qU_ 18 52 22 524287 ?_
        refine qP_ 19 53 22 1048575 ?_
        refine qP_ 20 54 22 2097151 ?_
        refine qP_ 21 33 22 4194303 ?_
        refine done_ (done_of HT.out (by kernel_rfl)) ?_
        try go_wp2
        go_meet
        case rel => exact ⟨_, (false), rl_, H', ⟨by have := HJ3.out; first | omega | exact Nat.le_refl _⟩, ⟨blkU_ BK0.out⟩, ⟨blkU_ BK1.out⟩, ⟨bel_⟩⟩
     case rest =>
      clear HC13
      (try clear c2); (try clear c0); (try clear c12); (try clear c27); (try clear c18); (try clear c20); (try clear c19); (try clear c21); (try clear c31); (try clear c32); (try clear c22); (try clear c33); (try clear c34); (try clear q0)
      obtain ⟨kq, x1, rfl, HA, HJ12, BK0, BK1, HB⟩ := hcut
      cases kq with
      | zero => exact absurd HA.out (by simp [impl_GrowthCheck.j1])
      | succ kj1 =>
       have H := HA.out
       clear HA
       simp only [impl_GrowthCheck.j1] at H
       by_cases c23 : x1 = true
       ·subst c23
        rw [if_pos rfl] at H
        obtain rfl := Option.some.inj H
        go_wp2
        go_ret
        exact ⟨rfl_, bel_⟩
       ·replace c23 := Bool.eq_false_iff.mpr c23
        subst c23
        rw [if_neg (show ¬ (false = true) by decide)] at H
        by_cases c11 : a0 = a1
        ·rw [if_pos c11] at H
         have c35 := beq_iff_eq.mpr c11
         have c36 := bne_eq_false_iff_eq.mpr c11
         clear c11
         by_cases c14 : (!(a2 == a6) || (!(a3 == a7) || (!(a4 == a8) || (!(a5 == a9))))) = true
         ·rw [if_pos c14] at H
          have c37 : (!(a2 == a6) || (!(a3 == a7) || (!(a4 == a8) || (!(a5 == a9))))) = true := c14
          clear c14
          obtain rfl := Option.some.inj H
          try go_wp2
          replace BK0 := a_ (blk_drew BK0.out)
          replace BK1 := a_ (blk_drew BK1.out)
          replace HB := a_ (below_drew1 HB.out)
          refine start_ (n := 26) (S := fun w' => hdc5_ w' gb0 (.int .i64 a0) (.int .u64 a2) (.int .u64 a3) (.int .u64 a4) (.int .u64 a5) (hd5_ w' gb1 (.int .i64 a1) (.int .u64 a6) (.int .u64 a7) (.int .u64 a8) (.int .u64 a9))) (ds := []) #[false, false, false, false, false, false, false, false, false, false, false, false, false, false, false, false, false, false, false, false, false, false, false, false, false, false] (by kernel_rfl) rfl rfl (hcc5_ BK0.out (hc5_ BK1.out)) (fun hHeld => ?_); refine with_tabW impl_GrowthCheck.tab9 impl_GrowthCheck.bits9 (fun HT HW_ => ?_)
          generalize wc.drew = w14 at BK0 BK1 HB hHeld ⊢
          refine qP_ 0 56 26 1 ?_
          refine qP_ 1 57 26 3 ?_
          refine qP_ 2 58 26 7 ?_
          refine qP_ 3 59 26 15 ?_
          refine qP_ 4 60 26 31 ?_
          refine qP_ 6 62 26 95 ?_
          refine qT_ 5 61 26 127 ?_
          refine qT_ 7 63 26 255 ?_
          refine qP_ 8 64 26 511 ?_
          refine qP_ 9 65 26 1023 ?_
          refine qP_ 10 66 26 2047 ?_
          refine qU_ 11 67 26 4095 ?_
          refine qU_ 12 68 26 8191 ?_
          refine qU_ 13 69 26 16383 ?_
          refine qU_ 14 70 26 32767 ?_
          refine qU_ 15 71 26 65535 ?_
          refine qU_ 16 72 26 131071 ?_
          refine qU_ 17 73 26 262143 ?_
          refine qU_ 18 74 26 524287 ?_
          refine qU_ 19 75 26 1048575 ?_
          refine qU_ 20 76 26 2097151 ?_
          refine qU_ 21 77 26 4194303 ?_
          refine qU_ 22 78 26 8388607 ?_
          refine qU_ 23 79 26 16777215 ?_
          refine qP_ 24 80 26 33554431 ?_
          refine qP_ 25 55 26 67108863 ?_
          refine done_ (done_of HT.out (by kernel_rfl)) ?_
          try go_wp2
          go_ret
          exact ⟨rfl_, bel_⟩
         ·rw [if_neg c14] at H
          have c37 : (!(a2 == a6) || (!(a3 == a7) || (!(a4 == a8) || (!(a5 == a9))))) = false := by simpa using c14
          clear c14
          by_cases c24 : x0 = true
          ·subst c24
           rw [if_pos rfl] at H
           obtain ⟨t24, A4, H⟩ := bnd_ H
           obtain ⟨⟨t6, t7, t8, t9⟩, A5, H⟩ := bnd_ H
           dsimp only at H
           by_cases c15 : (!(t6 == a6) || (!(t7 == a7) || (!(t8 == a8) || (!(t9 == a9))))) = true
           ·rw [if_pos c15] at H
            have c38 : (!(t6 == a6) || (!(t7 == a7) || (!(t8 == a8) || (!(t9 == a9))))) = true := c15
            clear c15
            obtain rfl := Option.some.inj H
            try go_wp2
            replace BK0 := a_ (blk_drew BK0.out)
            replace BK1 := a_ (blk_drew BK1.out)
            replace HB := a_ (below_drew1 HB.out)
            refine start_ (n := 26) (S := fun w' => hdc5_ w' gb0 (.int .i64 a0) (.int .u64 a2) (.int .u64 a3) (.int .u64 a4) (.int .u64 a5) (hd5_ w' gb1 (.int .i64 a1) (.int .u64 a6) (.int .u64 a7) (.int .u64 a8) (.int .u64 a9))) (ds := []) #[false, false, false, false, false, false, false, false, false, false, false, false, false, false, false, false, false, false, false, false, false, false, false, false, false, false] (by kernel_rfl) rfl rfl (hcc5_ BK0.out (hc5_ BK1.out)) (fun hHeld => ?_); refine with_tabW impl_GrowthCheck.tab9 impl_GrowthCheck.bits9 (fun HT HW_ => ?_)
            generalize wc.drew = w15 at BK0 BK1 HB hHeld ⊢
            refine qP_ 0 56 26 1 ?_
            refine qP_ 1 57 26 3 ?_
            refine qP_ 2 58 26 7 ?_
            refine qP_ 3 59 26 15 ?_
            refine qP_ 4 60 26 31 ?_
            refine qP_ 6 62 26 95 ?_
            refine qT_ 5 61 26 127 ?_
            refine qT_ 7 63 26 255 ?_
            refine qP_ 8 64 26 511 ?_
            refine qP_ 9 65 26 1023 ?_
            refine qP_ 10 66 26 2047 ?_
            refine qP_ 11 67 26 4095 ?_
            refine qP_ 12 68 26 8191 ?_
            refine qP_ 13 69 26 16383 ?_
            refine qP_ 14 70 26 32767 ?_
            refine qP_ 15 71 26 65535 ?_
            refine qP_ 17 73 26 196607 ?_
            refine qP_ 18 74 26 458751 ?_
            refine qP_ 20 76 26 1507327 ?_
            refine qT_ 21 77 26 3604479 ?_
            refine oneP_ 16 (some 72) (b_ 26 3670015) HT (fun K hK => ?_)
            refine goN_ Try.func71 #[.int .i64 a0, .int .i64 a1, .slice A0 l2.length c2] ?_
            with_reducible refine (impl_known.calls _ _ _ _ _ _ _ _ ?side1 ?side2 A4.out).mono ?_
            (case side1 => exact cU_ (Kd.C_below HR2.out HB.out))
            (case side2 => exact HC2.out)
            rintro e w16 ⟨gm_, rfl, hgm_, ⟨gn_, him_⟩, hb⟩
            refine ⟨_, rfl, ?_⟩
            have HM := a_ him_
            clear him_
            replace BK0 := bb_ BK0.out hb
            replace BK1 := bb_ BK1.out hb
            replace HB := s_ hb
            (try clear hb)
            refine hK.out _ _ (hcc5_ BK0.out (hc5_ BK1.out)) (fun hHeld => ?_)
            clear hK K
            refine normP_ (some 72) ?_
            refine oneP_ 19 (some 75) (b_ 26 4194303) HT (fun K hK => ?_)
            refine goN_ Try.func70 #[.map (some gm_), .agg #[.int .i64 0, .int .i64 a1]] ?_
            with_reducible refine (impl_digestBy.calls _ _ _ _ _ _ _ _ _ gm_ gn_ (isU_ HM.out) A5.out).mono ?_
            rintro e w18 ⟨rfl, hb⟩
            refine ⟨_, rfl, ?_⟩
            replace BK0 := bb_ BK0.out hb
            replace BK1 := bb_ BK1.out hb
            replace HB := s_ hb
            (try clear hb)
            refine hK.out _ _ (hcc5_ BK0.out (hc5_ BK1.out)) (fun hHeld => ?_)
            clear hK K
            refine normP_ (some 75) ?_
            refine qP_ 22 78 26 8388607 ?_
            refine qP_ 23 79 26 16777215 ?_
            refine qP_ 24 80 26 33554431 ?_
            refine qP_ 25 55 26 67108863 ?_
            refine done_ (done_of HT.out (by kernel_rfl)) ?_
            try go_wp2
            go_ret
            exact ⟨rfl_, bel_⟩
           ·rw [if_neg c15] at H
            have c38 : (!(t6 == a6) || (!(t7 == a7) || (!(t8 == a8) || (!(t9 == a9))))) = false := by simpa using c15
            clear c15
            obtain rfl := Option.some.inj H
            try go_wp2
            replace BK0 := a_ (blk_drew BK0.out)
            replace BK1 := a_ (blk_drew BK1.out)
            replace HB := a_ (below_drew1 HB.out)
            refine start_ (n := 26) (S := fun w' => hdc5_ w' gb0 (.int .i64 a0) (.int .u64 a2) (.int .u64 a3) (.int .u64 a4) (.int .u64 a5) (hd5_ w' gb1 (.int .i64 a1) (.int .u64 a6) (.int .u64 a7) (.int .u64 a8) (.int .u64 a9))) (ds := []) #[false, false, false, false, false, false, false, false, false, false, false, false, false, false, false, false, false, false, false, false, false, false, false, false, false, false] (by kernel_rfl) rfl rfl (hcc5_ BK0.out (hc5_ BK1.out)) (fun hHeld => ?_); refine with_tabW impl_GrowthCheck.tab9 impl_GrowthCheck.bits9 (fun HT HW_ => ?_)
            generalize wc.drew = w19 at BK0 BK1 HB hHeld ⊢
            refine qP_ 0 56 26 1 ?_
            refine qP_ 1 57 26 3 ?_
            refine qP_ 2 58 26 7 ?_
            refine qP_ 3 59 26 15 ?_
            refine qP_ 4 60 26 31 ?_
            refine qP_ 6 62 26 95 ?_
            refine qT_ 5 61 26 127 ?_
            refine qT_ 7 63 26 255 ?_
            refine qP_ 8 64 26 511 ?_
            refine qP_ 9 65 26 1023 ?_
            refine qP_ 10 66 26 2047 ?_
            refine qP_ 11 67 26 4095 ?_
            refine qP_ 12 68 26 8191 ?_
            refine qP_ 13 69 26 16383 ?_
            refine qP_ 14 70 26 32767 ?_
            refine qP_ 15 71 26 65535 ?_
            refine qP_ 17 73 26 196607 ?_
            refine qP_ 18 74 26 458751 ?_
            refine qP_ 20 76 26 1507327 ?_
            refine qT_ 21 77 26 3604479 ?_
            refine oneP_ 16 (some 72) (b_ 26 3670015) HT (fun K hK => ?_)
            refine goN_ Try.func71 #[.int .i64 a0, .int .i64 a1, .slice A0 l2.length c2] ?_
            with_reducible refine (impl_known.calls _ _ _ _ _ _ _ _ ?side1 ?side2 A4.out).mono ?_
            (case side1 => exact cU_ (Kd.C_below HR2.out HB.out))
            (case side2 => exact HC2.out)
            rintro e w20 ⟨gm_, rfl, hgm_, ⟨gn_, him_⟩, hb⟩
            refine ⟨_, rfl, ?_⟩
            have HM := a_ him_
            clear him_
            replace BK0 := bb_ BK0.out hb
            replace BK1 := bb_ BK1.out hb
            replace HB := s_ hb
            (try clear hb)
            refine hK.out _ _ (hcc5_ BK0.out (hc5_ BK1.out)) (fun hHeld => ?_)
            clear hK K
            refine normP_ (some 72) ?_
            refine oneP_ 19 (some 75) (b_ 26 4194303) HT (fun K hK => ?_)
            refine goN_ Try.func70 #[.map (some gm_), .agg #[.int .i64 0, .int .i64 a1]] ?_
            with_reducible refine (impl_digestBy.calls _ _ _ _ _ _ _ _ _ gm_ gn_ (isU_ HM.out) A5.out).mono ?_
            rintro e w21 ⟨rfl, hb⟩
            refine ⟨_, rfl, ?_⟩
            replace BK0 := bb_ BK0.out hb
            replace BK1 := bb_ BK1.out hb
            replace HB := s_ hb
            (try clear hb)
            refine hK.out _ _ (hcc5_ BK0.out (hc5_ BK1.out)) (fun hHeld => ?_)
            clear hK K
            refine normP_ (some 75) ?_
            refine qP_ 22 78 26 8388607 ?_
            refine qP_ 23 79 26 16777215 ?_
            refine qP_ 24 80 26 33554431 ?_
            refine qP_ 25 55 26 67108863 ?_
            refine done_ (done_of HT.out (by kernel_rfl)) ?_
            try go_wp2
            go_ret
            exact ⟨rfl_, bel_⟩
          ·replace c24 := Bool.eq_false_iff.mpr c24
           subst c24
           rw [if_neg (show ¬ (false = true) by decide)] at H
           obtain rfl := Option.some.inj H
           try go_wp2
           replace BK0 := a_ (blk_drew BK0.out)
           replace BK1 := a_ (blk_drew BK1.out)
           replace HB := a_ (below_drew1 HB.out)
           refine start_ (n := 26) (S := fun w' => hdc5_ w' gb0 (.int .i64 a0) (.int .u64 a2) (.int .u64 a3) (.int .u64 a4) (.int .u64 a5) (hd5_ w' gb1 (.int .i64 a1) (.int .u64 a6) (.int .u64 a7) (.int .u64 a8) (.int .u64 a9))) (ds := []) #[false, false, false, false, false, false, false, false, false, false, false, false, false, false, false, false, false, false, false, false, false, false, false, false, false, false] (by kernel_rfl) rfl rfl (hcc5_ BK0.out (hc5_ BK1.out)) (fun hHeld => ?_); refine with_tabW impl_GrowthCheck.tab9 impl_GrowthCheck.bits9 (fun HT HW_ => ?_)
           generalize wc.drew = w22 at BK0 BK1 HB hHeld ⊢
           refine qP_ 0 56 26 1 ?_
           refine qP_ 1 57 26 3 ?_
           refine qP_ 2 58 26 7 ?_
           refine qP_ 3 59 26 15 ?_
           refine qP_ 4 60 26 31 ?_
           refine qP_ 6 62 26 95 ?_
           refine qT_ 5 61 26 127 ?_
           refine qT_ 7 63 26 255 ?_
           refine qP_ 8 64 26 511 ?_
           refine qP_ 9 65 26 1023 ?_
           refine qP_ 10 66 26 2047 ?_
           refine qP_ 11 67 26 4095 ?_
           refine qP_ 12 68 26 8191 ?_
           refine qU_ 13 69 26 16383 ?_
           refine qU_ 14 70 26 32767 ?_
           refine qU_ 15 71 26 65535 ?_
           refine qU_ 16 72 26 131071 ?_
           refine qU_ 17 73 26 262143 ?_
           refine qU_ 18 74 26 524287 ?_
           refine qU_ 19 75 26 1048575 ?_
           refine qU_ 20 76 26 2097151 ?_
           refine qU_ 21 77 26 4194303 ?_
           refine qU_ 22 78 26 8388607 ?_
           refine qP_ 23 79 26 16777215 ?_
           refine qP_ 24 80 26 33554431 ?_
           refine qP_ 25 55 26 67108863 ?_
           refine done_ (done_of HT.out (by kernel_rfl)) ?_
           try go_wp2
           go_ret
           exact ⟨rfl_, bel_⟩
        ·rw [if_neg c11] at H
         have c35 := beq_eq_false_iff_ne.mpr c11
         have c36 := bne_iff_ne.mpr c11
         by_cases c25 : x0 = true
         ·subst c25
          rw [if_pos rfl] at H
          obtain ⟨t25, A6, H⟩ := bnd_ H
          obtain ⟨⟨t10, t11, t12, t13⟩, A7, H⟩ := bnd_ H
          dsimp only at H
          by_cases c16 : (!(t10 == a6) || (!(t11 == a7) || (!(t12 == a8) || (!(t13 == a9))))) = true
          ·rw [if_pos c16] at H
           have c39 : (!(t10 == a6) || (!(t11 == a7) || (!(t12 == a8) || (!(t13 == a9))))) = true := c16
           clear c16
           obtain rfl := Option.some.inj H
           try go_wp2
           replace BK0 := a_ (blk_drew BK0.out)
           replace BK1 := a_ (blk_drew BK1.out)
           replace HB := a_ (below_drew1 HB.out)
           refine start_ (n := 26) (S := fun w' => hd5_ w' gb1 (.int .i64 a1) (.int .u64 a6) (.int .u64 a7) (.int .u64 a8) (.int .u64 a9)) (ds := []) #[false, false, false, false, false, false, false, false, false, false, false, false, false, false, false, false, false, false, false, false, false, false, false, false, false, false] (by kernel_rfl) rfl rfl (hc5_ BK1.out) (fun hHeld => ?_); refine with_tabW impl_GrowthCheck.tab9 impl_GrowthCheck.bits9 (fun HT HW_ => ?_)
           generalize wc.drew = w23 at BK0 BK1 HB hHeld ⊢
           refine qP_ 0 56 26 1 ?_
           refine qP_ 1 57 26 3 ?_
           refine qP_ 2 58 26 7 ?_
           refine qP_ 3 59 26 15 ?_
           refine qU_ 4 60 26 31 ?_
           refine qU_ 5 61 26 63 ?_
           refine qU_ 6 62 26 127 ?_
           refine qU_ 7 63 26 255 ?_
           refine qU_ 8 64 26 511 ?_
           refine qP_ 9 65 26 1023 ?_
           refine qP_ 10 66 26 2047 ?_
           refine qP_ 11 67 26 4095 ?_
           refine qP_ 12 68 26 8191 ?_
           refine qP_ 13 69 26 16383 ?_
           refine qP_ 14 70 26 32767 ?_
           refine qP_ 15 71 26 65535 ?_
           refine qP_ 17 73 26 196607 ?_
           refine qP_ 18 74 26 458751 ?_
           refine qP_ 20 76 26 1507327 ?_
           refine qT_ 21 77 26 3604479 ?_
           refine oneP_ 16 (some 72) (b_ 26 3670015) HT (fun K hK => ?_)
           refine goN_ Try.func71 #[.int .i64 a0, .int .i64 a1, .slice A0 l2.length c2] ?_
           with_reducible refine (impl_known.calls _ _ _ _ _ _ _ _ ?side1 ?side2 A6.out).mono ?_
           (case side1 => exact cU_ (Kd.C_below HR2.out HB.out))
           (case side2 => exact HC2.out)
           rintro e w24 ⟨gm_, rfl, hgm_, ⟨gn_, him_⟩, hb⟩
           refine ⟨_, rfl, ?_⟩
           have HM := a_ him_
           clear him_
           replace BK0 := bb_ BK0.out hb
           replace BK1 := bb_ BK1.out hb
           replace HB := s_ hb
           (try clear hb)
           refine hK.out _ _ (hc5_ BK1.out) (fun hHeld => ?_)
           clear hK K
           refine normP_ (some 72) ?_
           refine oneP_ 19 (some 75) (b_ 26 4194303) HT (fun K hK => ?_)
           refine goN_ Try.func70 #[.map (some gm_), .agg #[.int .i64 0, .int .i64 a1]] ?_
           with_reducible refine (impl_digestBy.calls _ _ _ _ _ _ _ _ _ gm_ gn_ (isU_ HM.out) A7.out).mono ?_
           rintro e w25 ⟨rfl, hb⟩
           refine ⟨_, rfl, ?_⟩
           replace BK0 := bb_ BK0.out hb
           replace BK1 := bb_ BK1.out hb
           replace HB := s_ hb
           (try clear hb)
           refine hK.out _ _ (hc5_ BK1.out) (fun hHeld => ?_)
           clear hK K
           refine normP_ (some 75) ?_
           refine qP_ 22 78 26 8388607 ?_
           refine qP_ 23 79 26 16777215 ?_
           refine qP_ 24 80 26 33554431 ?_
           refine qP_ 25 55 26 67108863 ?_
           refine done_ (done_of HT.out (by kernel_rfl)) ?_
           try go_wp2
           go_ret
           exact ⟨rfl_, bel_⟩
          ·rw [if_neg c16] at H
           have c39 : (!(t10 == a6) || (!(t11 == a7) || (!(t12 == a8) || (!(t13 == a9))))) = false := by simpa using c16
           clear c16
           obtain rfl := Option.some.inj H
           try go_wp2
           replace BK0 := a_ (blk_drew BK0.out)
           replace BK1 := a_ (blk_drew BK1.out)
           replace HB := a_ (below_drew1 HB.out)
           refine start_ (n := 26) (S := fun w' => hd5_ w' gb1 (.int .i64 a1) (.int .u64 a6) (.int .u64 a7) (.int .u64 a8) (.int .u64 a9)) (ds := []) #[false, false, false, false, false, false, false, false, false, false, false, false, false, false, false, false, false, false, false, false, false, false, false, false, false, false] (by kernel_rfl) rfl rfl (hc5_ BK1.out) (fun hHeld => ?_); refine with_tabW impl_GrowthCheck.tab9 impl_GrowthCheck.bits9 (fun HT HW_ => ?_)
           generalize wc.drew = w26 at BK0 BK1 HB hHeld ⊢
           refine qP_ 0 56 26 1 ?_
           refine qP_ 1 57 26 3 ?_
           refine qP_ 2 58 26 7 ?_
           refine qP_ 3 59 26 15 ?_
           refine qU_ 4 60 26 31 ?_
           refine qU_ 5 61 26 63 ?_
           refine qU_ 6 62 26 127 ?_
           refine qU_ 7 63 26 255 ?_
           refine qU_ 8 64 26 511 ?_
           refine qP_ 9 65 26 1023 ?_
           refine qP_ 10 66 26 2047 ?_
           refine qP_ 11 67 26 4095 ?_
           refine qP_ 12 68 26 8191 ?_
           refine qP_ 13 69 26 16383 ?_
           refine qP_ 14 70 26 32767 ?_
           refine qP_ 15 71 26 65535 ?_
           refine qP_ 17 73 26 196607 ?_
           refine qP_ 18 74 26 458751 ?_
           refine qP_ 20 76 26 1507327 ?_
           refine qT_ 21 77 26 3604479 ?_
           refine oneP_ 16 (some 72) (b_ 26 3670015) HT (fun K hK => ?_)
           refine goN_ Try.func71 #[.int .i64 a0, .int .i64 a1, .slice A0 l2.length c2] ?_
           with_reducible refine (impl_known.calls _ _ _ _ _ _ _ _ ?side1 ?side2 A6.out).mono ?_
           (case side1 => exact cU_ (Kd.C_below HR2.out HB.out))
           (case side2 => exact HC2.out)
           rintro e w27 ⟨gm_, rfl, hgm_, ⟨gn_, him_⟩, hb⟩
           refine ⟨_, rfl, ?_⟩
           have HM := a_ him_
           clear him_
           replace BK0 := bb_ BK0.out hb
           replace BK1 := bb_ BK1.out hb
           replace HB := s_ hb
           (try clear hb)
           refine hK.out _ _ (hc5_ BK1.out) (fun hHeld => ?_)
           clear hK K
           refine normP_ (some 72) ?_
           refine oneP_ 19 (some 75) (b_ 26 4194303) HT (fun K hK => ?_)
           refine goN_ Try.func70 #[.map (some gm_), .agg #[.int .i64 0, .int .i64 a1]] ?_
           with_reducible refine (impl_digestBy.calls _ _ _ _ _ _ _ _ _ gm_ gn_ (isU_ HM.out) A7.out).mono ?_
           rintro e w64 ⟨rfl, hb⟩
           refine ⟨_, rfl, ?_⟩
           replace BK0 := bb_ BK0.out hb
           replace BK1 := bb_ BK1.out hb
           replace HB := s_ hb
           (try clear hb)
           refine hK.out _ _ (hc5_ BK1.out) (fun hHeld => ?_)
           clear hK K
           refine normP_ (some 75) ?_
           refine qP_ 22 78 26 8388607 ?_
           refine qP_ 23 79 26 16777215 ?_
           refine qP_ 24 80 26 33554431 ?_
           refine qP_ 25 55 26 67108863 ?_
           refine done_ (done_of HT.out (by kernel_rfl)) ?_
           try go_wp2
           go_ret
           exact ⟨rfl_, bel_⟩
         ·replace c25 := Bool.eq_false_iff.mpr c25
          subst c25
          rw [if_neg (show ¬ (false = true) by decide)] at H
          obtain rfl := Option.some.inj H
          try go_wp2
          replace BK0 := a_ (blk_drew BK0.out)
          replace BK1 := a_ (blk_drew BK1.out)
          replace HB := a_ (below_drew1 HB.out)
          refine start_ (n := 26) (S := fun w' => True) (ds := []) #[false, false, false, false, false, false, false, false, false, false, false, false, false, false, false, false, false, false, false, false, false, false, false, false, false, false] (by kernel_rfl) rfl rfl trivial (fun hHeld => ?_); refine with_tabW impl_GrowthCheck.tab9 impl_GrowthCheck.bits9 (fun HT HW_ => ?_)
          generalize wc.drew = w28 at BK0 BK1 HB hHeld ⊢
          refine qP_ 0 56 26 1 ?_
          refine qP_ 1 57 26 3 ?_
          refine qP_ 2 58 26 7 ?_
          refine qP_ 3 59 26 15 ?_
          refine qU_ 4 60 26 31 ?_
          refine qU_ 5 61 26 63 ?_
          refine qU_ 6 62 26 127 ?_
          refine qU_ 7 63 26 255 ?_
          refine qU_ 8 64 26 511 ?_
          refine qP_ 9 65 26 1023 ?_
          refine qP_ 10 66 26 2047 ?_
          refine qP_ 11 67 26 4095 ?_
          refine qP_ 12 68 26 8191 ?_
          refine qU_ 13 69 26 16383 ?_
          refine qU_ 14 70 26 32767 ?_
          refine qU_ 15 71 26 65535 ?_
          refine qU_ 16 72 26 131071 ?_
          refine qU_ 17 73 26 262143 ?_
          refine qU_ 18 74 26 524287 ?_
          refine qU_ 19 75 26 1048575 ?_
          refine qU_ 20 76 26 2097151 ?_
          refine qU_ 21 77 26 4194303 ?_
          refine qU_ 22 78 26 8388607 ?_
          refine qP_ 23 79 26 16777215 ?_
          refine qP_ 24 80 26 33554431 ?_
          refine qP_ 25 55 26 67108863 ?_
          refine done_ (done_of HT.out (by kernel_rfl)) ?_
          try go_wp2
          go_ret
          exact ⟨rfl_, bel_⟩
    ·rw [if_neg c1] at H
     have c28 := beq_eq_false_iff_ne.mpr c1
     have c29 := bne_iff_ne.mpr c1
     obtain rfl := Option.some.inj H
     go_wp2_with (first | (refine gcD_ 62 24 Try.func62 (impl_mayGrow.calls _ _ _ _ A2.out) ?_; intro nd) | (refine gcB_ 31 31 Try.func31 (impl_GrowthLen.calls _ _ _ _ _ A3.out) ?_; intro w29 hb; replace BK0 := bb_ BK0.out hb; replace BK1 := bb_ BK1.out hb; replace HB := s_ hb; clear hb))
     go_ret
     exact ⟨rfl_, bel_⟩
   ·replace c10 := Bool.eq_false_iff.mpr c10
    subst c10
    rw [if_neg (show ¬ (false = true) by decide)] at H
    obtain rfl := Option.some.inj H
    go_wp2_with (first | (refine gcD_ 62 24 Try.func62 (impl_mayGrow.calls _ _ _ _ A2.out) ?_; intro nd))
    go_ret
    exact ⟨rfl_, bel_⟩
end
section
def spec_l3Above.f : Nat → Int → Int → Int → Int → Int → List (S29) → Option ((List (S29)))
 | 0, _, _, _, _, _, _ => none
 | k + 1, a0, a2, a4, a1, a3, l3 => if a2 ≤ a1 then (some (([] : List (S29)))) else ((spec_TreeSplit.f k (wrap64 (a2 - a0))).bind fun t0 => (if a4 < (wrap64 (a0 + t0)) then ((spec_l3Above.f k a0 (wrap64 (a0 + t0)) a4 a1 a3 l3).bind fun t1 => ((spec_l3Node.f k (wrap64 (a0 + t0)) a2 a1 a3 l3).bind fun bt0 => (if t1.length < 4398046511104 then (some (t1 ++ [(⟨bt0.1, bt0.2.1, bt0.2.2.1, bt0.2.2.2⟩ : S29)])) else (none)))) else ((spec_l3Above.f k (wrap64 (a0 + t0)) a2 a4 a1 a3 l3).bind fun t2 => ((spec_l3Node.f k a0 (wrap64 (a0 + t0)) a1 a3 l3).bind fun bt1 => (if t2.length < 4398046511104 then (some (t2 ++ [(⟨bt1.1, bt1.2.1, bt1.2.2.1, bt1.2.2.2⟩ : S29)])) else (none))))))
theorem spec_l3Above.calls (k : Nat) : ∀ (a0 a4 a2 a1 a3 : Int) (A0 : Option Addr) (c5 : Nat) (l3 r : List (S29)) (w : World) (hr5 : Kd.C k29 w A0 l3.length l3) (hc5 : l3.length ≤ c5) (h : spec_l3Above.f k a0 a4 a2 a1 a3 l3 = some r),
  Calls Try.prog 85 #[.int .i64 a0, .int .i64 a4, .int .i64 a2, .int .i64 a1, .int .i64 a3, .slice A0 l3.length c5] w fun e w' => ∃ v0_ : Value, e = .returned (v0_) ∧ Kd.R k29 29 w' w.heap.size (fun _ => True) v0_ r ∧ Below w.heap.size w w' := by
 induction k using Nat.strongRecOn with
 | _ k ih =>
 intro a0 a4 a2 a1 a3 A0 c5 l3 r w hr5 hc5 h
 cases k with
 | zero => exact absurd h (by simp [spec_l3Above.f])
 | succ k =>
 simp only [spec_l3Above.f] at h
 have HR5 := a_ hr5
 have HC5 := a_ hc5
 clear hr5 hc5
 have HB := rB_ w
 have H : (if a4 ≤ a1 then (some (([] : List (S29)))) else ((spec_TreeSplit.f k (wrap64 (a4 - a0))).bind fun t0 => (if a2 < (wrap64 (a0 + t0)) then ((spec_l3Above.f k a0 (wrap64 (a0 + t0)) a2 a1 a3 l3).bind fun t1 => ((spec_l3Node.f k (wrap64 (a0 + t0)) a4 a1 a3 l3).bind fun bt0 => (if t1.length < 4398046511104 then (some (t1 ++ [(⟨bt0.1, bt0.2.1, bt0.2.2.1, bt0.2.2.2⟩ : S29)])) else (none)))) else ((spec_l3Above.f k (wrap64 (a0 + t0)) a4 a2 a1 a3 l3).bind fun t2 => ((spec_l3Node.f k a0 (wrap64 (a0 + t0)) a1 a3 l3).bind fun bt1 => (if t2.length < 4398046511104 then (some (t2 ++ [(⟨bt1.1, bt1.2.1, bt1.2.2.1, bt1.2.2.2⟩ : S29)])) else (none))))))) = some r := h
 clear h
 by_cases c7 : a4 ≤ a1
 ·rw [if_pos c7] at H
  have c13 := decide_eq_true c7
  clear c7
  obtain ⟨y0, hy0⟩ : ∃ y_ : List (S29), y_ = (([] : List (S29))) := ⟨_, rfl⟩
  replace H : (some y0) = some r := rpl_ hy0 H
  have Ny0 := a_ hy0
  clear hy0
  obtain rfl := Option.some.inj H
  go_enter Try.func85, Try.ntmps85
  go_wp2_with (first | ((with_reducible refine gate_dst (N := 17) rfl ?_); refine Kd.R_lit k29 _ 29 ?hg (N := 17) ?hd (xs := ([] : List (S29))) (inner := []) (ok := fun _ => True) (okp := fun _ => True) ?hr ?hp (fun _ hk => hk) trivial (Below.refl _ _) (Nat.le_refl _) (by simp) ?_; (case hd => rfl); (case hg => rfl); (case hr => first | (go_simp; done) | (go_simp; rfl)); (case hp => exact (Reps.none _ _)); intro v2 w8 ho1 hb hg_ hnew_; clear hg_ hnew_; (first | rw [← Ny0.out] at ho1 | (simp only [Int.reduceToNat] at ho1; rw [← Ny0.out] at ho1)); have HO2 := a_ (Kd.R_lower ho1 (below_size bel_)); replace HB := s_ hb; clear hb ho1))
  go_ret
  exact ⟨_, rfl_, uR_ HO2.out, bel_⟩
 ·rw [if_neg c7] at H
  have c13 := decide_eq_false c7
  clear c7
  obtain ⟨t0, A1, H⟩ := bnd_ H
  by_cases c0 : a2 < (wrap64 (a0 + t0))
  ·rw [if_pos c0] at H
   have c12 := decide_eq_true c0
   clear c0
   obtain ⟨t1, A2, H⟩ := bnd_ H
   obtain ⟨⟨t3, t4, t5, t6⟩, A3, H⟩ := bnd_ H
   dsimp only at H
   obtain ⟨c1, H⟩ := ifn_ H
   have LMc0 := a_ c1
   clear c1
   obtain ⟨y1, hy1⟩ : ∃ y_ : List (S29), y_ = (t1 ++ [(⟨t3, t4, t5, t6⟩ : S29)]) := ⟨_, rfl⟩
   replace H : (some y1) = some r := rpl_ hy1 H
   have Ny1 := a_ hy1
   clear hy1
   obtain rfl := Option.some.inj H
   go_enter Try.func85, Try.ntmps85
   go_wp2_with (first | (refine gcD_ 88 22 Try.func88 (spec_TreeSplit.calls _ _ _ _ A1.out) ?_; intro nd) | (refine gcL_ 85 (some 33) Try.func85 #[.int .i64 a0, .int .i64 (wrap64 (a0 + t0)), .int .i64 a2, .int .i64 a1, .int .i64 a3, .slice A0 l3.length c5] ?_; (with_reducible refine (ih k (by omega) a0 (wrap64 (a0 + t0)) a2 a1 a3 _ _ l3 t1 _ ?side1 ?side2 A2.out).mono ?_); (case side1 => repeat (first | exact HR5.out | (with_reducible refine Kd.C_alloc ?_ _) | (with_reducible refine Kd.C_drewN ?_ _) | (with_reducible refine Kd.C_drew ?_))); (case side2 => exact HC5.out); rintro e w1 ⟨v0, rfl, ho0, hb⟩; refine ⟨_, rfl, ?_⟩; have HO0 := a_ (Kd.R_lower ho0 (below_size bel_)); replace HB := s_ hb; clear hb; (try clear ho0)) | (refine gcB_ 74 39 Try.func74 (spec_l3Node.calls _ _ _ _ _ _ _ _ _ _ _ _ _ ?side1 ?side2 A3.out) ?_; (case side1 => exact cU_ (Kd.C_below HR5.out HB.out)); (case side2 => exact HC5.out); intro w2 hb; replace HO0 := rb_ HO0.out hb; replace HB := s_ hb; clear hb) | ((with_reducible refine gate_builtin (b := .append) (xs := #[.tmp 33, .tmp 40]) rfl ?_); at_builtin; refine Kd.R_append k29 (w0 := w) w.heap.size rfl (.tmp 33) (.tmp 40) 49 29 (.agg #[(.int .u64 0), (.int .u64 0), (.int .u64 0), (.int .u64 0)]) 32 rfl Try.underlying49 info29 rfl (by decide) (by omega) v0 t1 (⟨t3, t4, t5, t6⟩ : S29) [.int .u64 t3, .int .u64 t4, .int .u64 t5, .int .u64 t6] (fun _ => True) (fun _ => False) rfl rfl ?aP (fun _ hk => hk.elim) ?aF ?aO ?aB ?aS ?aL ?_; (case aP => exact k29_mkM _ _ _ (⟨t3, t4, t5, t6⟩ : S29)); (case aB => exact bel_); (case aF => exact (fun _ _ => trivial)); (case aO => exact (kdU_ HO0.out)); (case aS => exact (below_size bel_)); (case aL => have := LMc0.out; omega); intro v3 w3 ho hb hg hat; rw [← Ny1.out] at ho; replace HB := a_ (hb); have HO3 := a_ (ho); clear HO0; clear ho hb hg hat))
   go_ret
   exact ⟨_, rfl_, uR_ HO3.out, bel_⟩
  ·rw [if_neg c0] at H
   have c12 := decide_eq_false c0
   clear c0
   obtain ⟨t2, A4, H⟩ := bnd_ H
   obtain ⟨⟨t7, t8, t9, t10⟩, A5, H⟩ := bnd_ H
   dsimp only at H
   obtain ⟨c11, H⟩ := ifn_ H
   have LMc1 := a_ c11
   clear c11
   obtain ⟨y2, hy2⟩ : ∃ y_ : List (S29), y_ = (t2 ++ [(⟨t7, t8, t9, t10⟩ : S29)]) := ⟨_, rfl⟩
   replace H : (some y2) = some r := rpl_ hy2 H
   have Ny2 := a_ hy2
   clear hy2
   obtain rfl := Option.some.inj H
   go_enter Try.func85, Try.ntmps85
   go_wp2_with (first | (refine gcD_ 88 22 Try.func88 (spec_TreeSplit.calls _ _ _ _ A1.out) ?_; intro nd) | (refine gcL_ 85 (some 48) Try.func85 #[.int .i64 (wrap64 (a0 + t0)), .int .i64 a4, .int .i64 a2, .int .i64 a1, .int .i64 a3, .slice A0 l3.length c5] ?_; (with_reducible refine (ih k (by omega) (wrap64 (a0 + t0)) a4 a2 a1 a3 _ _ l3 t2 _ ?side1 ?side2 A4.out).mono ?_); (case side1 => repeat (first | exact HR5.out | (with_reducible refine Kd.C_alloc ?_ _) | (with_reducible refine Kd.C_drewN ?_ _) | (with_reducible refine Kd.C_drew ?_))); (case side2 => exact HC5.out); rintro e w4 ⟨v1, rfl, ho0, hb⟩; refine ⟨_, rfl, ?_⟩; have HO1 := a_ (Kd.R_lower ho0 (below_size bel_)); replace HB := s_ hb; clear hb; (try clear ho0)) | (refine gcB_ 74 54 Try.func74 (spec_l3Node.calls _ _ _ _ _ _ _ _ _ _ _ _ _ ?side1 ?side2 A5.out) ?_; (case side1 => exact cU_ (Kd.C_below HR5.out HB.out)); (case side2 => exact HC5.out); intro w5 hb; replace HO1 := rb_ HO1.out hb; replace HB := s_ hb; clear hb) | ((with_reducible refine gate_builtin (b := .append) (xs := #[.tmp 48, .tmp 55]) rfl ?_); at_builtin; refine Kd.R_append k29 (w0 := w) w.heap.size rfl (.tmp 48) (.tmp 55) 49 29 (.agg #[(.int .u64 0), (.int .u64 0), (.int .u64 0), (.int .u64 0)]) 32 rfl Try.underlying49 info29 rfl (by decide) (by omega) v1 t2 (⟨t7, t8, t9, t10⟩ : S29) [.int .u64 t7, .int .u64 t8, .int .u64 t9, .int .u64 t10] (fun _ => True) (fun _ => False) rfl rfl ?aP (fun _ hk => hk.elim) ?aF ?aO ?aB ?aS ?aL ?_; (case aP => exact k29_mkM _ _ _ (⟨t7, t8, t9, t10⟩ : S29)); (case aB => exact bel_); (case aF => exact (fun _ _ => trivial)); (case aO => exact (kdU_ HO1.out)); (case aS => exact (below_size bel_)); (case aL => have := LMc1.out; omega); intro v4 w6 ho hb hg hat; rw [← Ny2.out] at ho; replace HB := a_ (hb); have HO4 := a_ (ho); clear HO1; clear ho hb hg hat))
   go_ret
   exact ⟨_, rfl_, uR_ HO4.out, bel_⟩
end
end
end Go.Proofs.Ytflckegggopdnaa.B
