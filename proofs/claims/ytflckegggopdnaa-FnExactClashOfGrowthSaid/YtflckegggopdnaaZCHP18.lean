/- Texts that this claim's law leans on, without what nothing names. What each says stands at its theorems; conditions stand in them. (Put together by the session's program shake.py; Lean checks it.) -/
import Derived.Test.YtflckegggopdnaaZCHP0
import Derived.Test.YtflckegggopdnaaZCHP16
import Derived.Test.YtflckegggopdnaaZCHP5
import Derived.Test.YtflckegggopdnaaZCHP6
import Derived.Test.YtflckegggopdnaaZCHP10
import Derived.Test.YtflckegggopdnaaZCHGSpecHash1
import Derived.Test.YtflckegggopdnaaZCHP9
import Derived.Test.YtflckegggopdnaaZCHP4
namespace Go.Proofs.Ytflckegggopdnaa.B
section
open Go.RowKit Go.Proofs.YtflckegggopdnaaW.PrintWords Go.Proofs.YtflckegggopdnaaW.PrintLast Go.Proofs.YtflckegggopdnaaW.PrintMore
attribute [local go_sem] max2_int min2_int max_two min_two max_three min_three max_four min_four
set_option linter.unusedVariables false
set_option maxHeartbeats 8000000
set_option maxRecDepth 100000
set_option linter.unusedSimpArgs false
section
attribute [local go_sem high] eqA29
def spec_GrowthCheck.j0 : Nat → List (S29) → Int → Int → Bool → Int → Int → Int → Int → Int → Int → Int → Int → Int → Int → Option (Int)
 | 0, _, _, _, _, _, _, _, _, _, _, _, _, _, _ => none
 | k + 1, x2, x7, x8, x30, x206000, x206001, x206002, x206003, x206004, x207000, x207001, x207002, x207003, x207004 => if x30 = true then (some 3) else (if x7 = x8 then (if (!(x207001 == x206001) || (!(x207002 == x206002) || (!(x207003 == x206003) || (!(x207004 == x206004))))) = true then (some 4) else (some 0)) else (if x7 = 0 then (some 0) else ((spec_PeaksCount.f k x7).bind fun t213 => (if 0 ≤ t213 then (if t213 ≤ (x2.length : Int) then ((spec_PeaksRoot.f k (x2.take (t213 : Int).toNat)).bind fun bt218 => (if (!(bt218.1 == x206001) || (!(bt218.2.1 == x206002) || (!(bt218.2.2.1 == x206003) || (!(bt218.2.2.2 == x206004))))) = true then (some 3) else ((spec_l3Node.f k 0 x8 x7 x8 x2).bind fun bt222 => (if (!(bt222.1 == x207001) || (!(bt222.2.1 == x207002) || (!(bt222.2.2.1 == x207003) || (!(bt222.2.2.2 == x207004))))) = true then (some 4) else (some 0))))) else (none)) else (none)))))
def spec_GrowthCheck.f (k : Nat) (a0_0 a0_1 : Int) (a0_2 a0_3 : Int) (a0_4 a1_0 : Int) (a1_1 a1_2 : Int) (a1_3 a1_4 : Int) (l2 : List (S29)) : Option (Int) := (spec_l3Sizes.f a0_0 a1_0).bind fun t207 => (if t207 = true then ((spec_GrowthLen.f k a0_0 a1_0).bind fun t208 => (if (l2.length : Int) = t208 then (if a0_0 = 0 then ((spec_HashOf.f k (⟨#[]⟩ : ByteArray)).bind fun bt209 => (spec_GrowthCheck.j0 k l2 a0_0 a1_0 (!(a0_1 == bt209.1) || (!(a0_2 == bt209.2.1) || (!(a0_3 == bt209.2.2.1) || (!(a0_4 == bt209.2.2.2))))) a0_0 a0_1 a0_2 a0_3 a0_4 a1_0 a1_1 a1_2 a1_3 a1_4)) else (spec_GrowthCheck.j0 k l2 a0_0 a1_0 false a0_0 a0_1 a0_2 a0_3 a0_4 a1_0 a1_1 a1_2 a1_3 a1_4)) else (some 2))) else (some 1))
def spec_GrowthCheck.T7 : Bool × List (List Nat × List Nat) := (true, [([], []), ([0], [0]), ([1], [1]), ([2], [2]), ([3, 2], [2, 3]), ([2, 2], [2]), ([4, 5, 2], [2, 4, 5]), ([2, 6], [2, 6])])
def spec_GrowthCheck.B7 : List Nat := [0, 1, 3, 7, 15, 7, 63, 127]
theorem spec_GrowthCheck.tab7 : rtab .any (opsOf Try.f35 7) = spec_GrowthCheck.T7 := by kernel_rfl
theorem spec_GrowthCheck.bits7 : waitsOk spec_GrowthCheck.T7.2 spec_GrowthCheck.B7 = true := by kernel_rfl
def spec_GrowthCheck.T15 : Bool × List (List Nat × List Nat) := (true, [([], []), ([], []), ([1], [1]), ([0, 2], [0, 2]), ([3, 2], [3]), ([], []), ([5], [5]), ([4, 6], [4, 6])])
def spec_GrowthCheck.B15 : List Nat := [0, 0, 2, 7, 15, 0, 32, 127]
theorem spec_GrowthCheck.tab15 : rtab .any (opsOf Try.f35 15) = spec_GrowthCheck.T15 := by kernel_rfl
theorem spec_GrowthCheck.bits15 : waitsOk spec_GrowthCheck.T15.2 spec_GrowthCheck.B15 = true := by kernel_rfl
def spec_GrowthCheck.T17 : Bool × List (List Nat × List Nat) := (true, [([], []), ([], []), ([], []), ([], []), ([0, 1, 2, 3], [0, 1, 2, 3]), ([], []), ([5], [5]), ([4, 6], [4, 6])])
def spec_GrowthCheck.B17 : List Nat := [0, 0, 0, 0, 15, 0, 32, 127]
theorem spec_GrowthCheck.tab17 : rtab .any (opsOf Try.f35 17) = spec_GrowthCheck.T17 := by kernel_rfl
theorem spec_GrowthCheck.bits17 : waitsOk spec_GrowthCheck.T17.2 spec_GrowthCheck.B17 = true := by kernel_rfl
theorem spec_GrowthCheck.calls (k : Nat) (a0_0 a0_1 : Int) (a0_2 a0_3 : Int) (a0_4 a1_0 : Int) (a1_1 a1_2 : Int) (a1_3 a1_4 : Int) (A2 : Option Addr) (c2 : Nat) (l2 : List (S29)) (r : Int) (w : World) (hr2 : Kd.C k29 w A2 l2.length l2) (hc2 : l2.length ≤ c2) (h : spec_GrowthCheck.f k a0_0 a0_1 a0_2 a0_3 a0_4 a1_0 a1_1 a1_2 a1_3 a1_4 l2 = some r) :
  Calls Try.prog 35 #[.agg #[.int .i64 a0_0, .int .u64 a0_1, .int .u64 a0_2, .int .u64 a0_3, .int .u64 a0_4], .agg #[.int .i64 a1_0, .int .u64 a1_1, .int .u64 a1_2, .int .u64 a1_3, .int .u64 a1_4], .slice A2 l2.length c2] w fun e w' => e = .returned (.int .i64 r) ∧ Below w.heap.size w w' := by
 have hu31 := Try.underlying31
 have hu29 := Try.underlying29
 have HR2 := Aside0.mk hr2
 have HC2 := Aside0.mk hc2
 clear hr2 hc2
 have HB := a_ (Below.refl w.heap.size w)
 have H := h
 unfold spec_GrowthCheck.f at H
 clear h
 obtain ⟨t207, A4, H⟩ := bnd_ H
 by_cases c5 : t207 = true
 ·subst c5
  rw [if_pos rfl] at H
  obtain ⟨t208, A6, H⟩ := bnd_ H
  by_cases c7 : (l2.length : Int) = t208
  ·rw [if_pos c7] at H
   have c7b0 := beq_iff_eq.mpr c7
   have c7b1 := bne_eq_false_iff_eq.mpr c7
   clear c7
   have HC8 := Aside0.mk H
   clear H
   go_enter Try.func35, Try.ntmps35
   go_upto_region 7 with (first | ((with_reducible refine gate_dst (N := 3) rfl ?_); refine boxE_ (cs := #[.int .i64 a0_0, .int .u64 a0_1, .int .u64 a0_2, .int .u64 a0_3, .int .u64 a0_4]) (t := 31) ?_; intro gb205 hg w9 hbox hb; have BK205 := a_ (hbox); have GW205 := sizeB_ hg; replace HB := stepB_ hb; clear hb hbox hg) | ((with_reducible refine gate_dst (N := 4) rfl ?_); refine boxE_ (cs := #[.int .i64 a1_0, .int .u64 a1_1, .int .u64 a1_2, .int .u64 a1_3, .int .u64 a1_4]) (t := 31) ?_; intro gb206 hg w10 hbox hb; have BK206 := a_ (hbox); have GW206 := sizeB_ hg; replace HB := stepB_ hb; obtain ⟨NB205_206, NB206_205⟩ := ne2_ BK205.out hg; replace BK205 := bb_ BK205.out hb; clear hb hbox hg; have hnb11 := NB205_206.out; have hnc11 := NB206_205.out; obtain ⟨z12_0, z12_1, z12_2, z12_3, z12_4, f12_0, f12_1, f12_2, f12_3, f12_4⟩ := cz5_ BK205.out; obtain ⟨z13_0, z13_1, z13_2, z13_3, z13_4, f13_0, f13_1, f13_2, f13_3, f13_4⟩ := cz5_ BK206.out) | (refine gcL_ 66 (some 15) Try.func66 #[.int .i64 a0_0, .int .i64 a1_0] ?_; (with_reducible refine (spec_l3Sizes.calls a0_0 a1_0 true _ A4.out).mono ?_); rintro e w10 ⟨rfl, hd_⟩; refine ⟨_, rfl, ?_⟩; replace BK205 := drawnK_ BK205.out hd_; replace BK206 := drawnK_ BK206.out hd_; replace HB := drawnB_ HB.out hd_; clear hd_; obtain ⟨z12_0, z12_1, z12_2, z12_3, z12_4, f12_0, f12_1, f12_2, f12_3, f12_4⟩ := cz5_ BK205.out; obtain ⟨z13_0, z13_1, z13_2, z13_3, z13_4, f13_0, f13_1, f13_2, f13_3, f13_4⟩ := cz5_ BK206.out) | (refine gcL_ 32 (some 21) Try.func32 #[.int .i64 a0_0, .int .i64 a1_0] ?_; (with_reducible refine (spec_GrowthLen.calls k a0_0 a1_0 t208 _ A6.out).mono ?_); rintro e w10 ⟨rfl, hd_⟩; refine ⟨_, rfl, ?_⟩; replace BK205 := drawnK_ BK205.out hd_; replace BK206 := drawnK_ BK206.out hd_; replace HB := drawnB_ HB.out hd_; clear hd_; obtain ⟨z12_0, z12_1, z12_2, z12_3, z12_4, f12_0, f12_1, f12_2, f12_3, f12_4⟩ := cz5_ BK205.out; obtain ⟨z13_0, z13_1, z13_2, z13_3, z13_4, f13_0, f13_1, f13_2, f13_3, f13_4⟩ := cz5_ BK206.out))
   (try simp only [Act.put, List.setIfInBounds_toArray, List.set_cons_zero, List.set_cons_succ])
   go_cut [30] (fun v30 wc => ∃ (kq : Nat) (x30_7 : Bool), v30 = .bool x30_7 ∧ Aside0 (spec_GrowthCheck.j0 kq l2 a0_0 a1_0 x30_7 a0_0 a0_1 a0_2 a0_3 a0_4 a1_0 a1_1 a1_2 a1_3 a1_4 = some r) ∧ Aside0 (kq ≤ k) ∧ Aside0 (wc.heap[gb205]? = some (.cells #[.int .i64 a0_0, .int .u64 a0_1, .int .u64 a0_2, .int .u64 a0_3, .int .u64 a0_4] 31 (0, 0))) ∧ Aside0 (wc.heap[gb206]? = some (.cells #[.int .i64 a1_0, .int .u64 a1_1, .int .u64 a1_2, .int .u64 a1_3, .int .u64 a1_4] 31 (0, 0))) ∧ Aside0 (Below w.heap.size w wc))
   case first =>
    have H := HC8.out
    clear HC8
    by_cases c14 : a0_0 = 0
    ·rw [if_pos c14] at H
     have c14b0 := beq_iff_eq.mpr c14
     have c14b1 := bne_eq_false_iff_eq.mpr c14
     clear c14
     (first | rw [c14b0] | (simp only [i64_w, i32_w]; rw [c14b0]) | skip)
     obtain ⟨⟨t209, t210, t211, t212⟩, A15, H⟩ := bnd_ H
     dsimp only at H
     have H' := Aside0.mk H
     clear H
     try go_wp2
     replace BK205 := a_ (blk_drew BK205.out)
     replace BK206 := a_ (blk_drew BK206.out)
     replace HB := a_ (below_drew1 HB.out)
     refine start_ (n := 8) (S := fun w' => hd5_ w' gb205 (.int .i64 a0_0) (.int .u64 a0_1) (.int .u64 a0_2) (.int .u64 a0_3) (.int .u64 a0_4)) (ds := []) #[false, false, false, false, false, false, false, false] (by kernel_rfl) rfl rfl (hc5_ BK205.out) (fun hHeld => ?_); refine with_tabW spec_GrowthCheck.tab7 spec_GrowthCheck.bits7 (fun HT HW_ => ?_)
     generalize w10.drew = w16 at BK205 BK206 HB hHeld ⊢
     refine pP_ 0 (some 23) (b_ 8 1) HT ?_
     refine pP_ 1 (some 24) (b_ 8 3) HT ?_
     refine pP_ 2 (some 25) (b_ 8 7) HT ?_
     refine pP_ 3 (some 26) (b_ 8 15) HT ?_
     refine takeP_ 4 (some 27) (b_ 8 31) HT HW_ hHeld ?_
     refine oneP_ 5 (some 28) (b_ 8 63) HT (fun K hK => ?_)
     refine goN_ Try.func72 #[.string (⟨#[]⟩ : ByteArray)] ?_
     with_reducible refine (spec_HashOf.calls k (⟨#[]⟩ : ByteArray) t209 t210 t211 t212 _ A15.out).mono ?_
     rintro e w17 ⟨rfl, hb⟩
     refine ⟨_, rfl, ?_⟩
     replace BK205 := bb_ BK205.out hb
     replace BK206 := bb_ BK206.out hb
     replace HB := stepB_ hb
     (try clear hb)
     refine hK.out _ _ (hc5_ BK205.out) (fun hHeld => ?_)
     clear hK K
     refine normP_ (some 28) ?_
     refine pP_ 6 (some 29) (b_ 8 127) HT ?_
     refine pP_ 7 (some 30) (b_ 8 255) HT ?_
     refine done_ (done_of HT.out (by kernel_rfl)) ?_
     try go_wp2
     go_meet
     case rel => exact ⟨_, ((!(a0_1 == t209) || (!(a0_2 == t210) || (!(a0_3 == t211) || (!(a0_4 == t212)))))), rl_, H', ⟨by first | omega | exact Nat.le_refl _⟩, ⟨blkU_ BK205.out⟩, ⟨blkU_ BK206.out⟩, ⟨bel_⟩⟩
    ·rw [if_neg c14] at H
     have c14b0 := beq_eq_false_iff_ne.mpr c14
     have c14b1 := bne_iff_ne.mpr c14
     (first | rw [c14b0] | (simp only [i64_w, i32_w]; rw [c14b0]) | skip)
     have H' := Aside0.mk H
     clear H
     try go_wp2
     replace BK205 := a_ (blk_drew BK205.out)
     replace BK206 := a_ (blk_drew BK206.out)
     replace HB := a_ (below_drew1 HB.out)
     refine start_ (n := 8) (S := fun w' => True) (ds := []) #[false, false, false, false, false, false, false, false] (by kernel_rfl) rfl rfl trivial (fun hHeld => ?_); refine with_tabW spec_GrowthCheck.tab7 spec_GrowthCheck.bits7 (fun HT HW_ => ?_)
     generalize w10.drew = w18 at BK205 BK206 HB hHeld ⊢
     refine pP_ 0 (some 23) (b_ 8 1) HT ?_
     refine pP_ 1 (some 24) (b_ 8 3) HT ?_
     refine pP_ 2 (some 25) (b_ 8 7) HT ?_
     refine pureU_ 3 (some 26) (b_ 8 15) HT ?_
     refine pureU_ 4 (some 27) (b_ 8 31) HT ?_
     refine pureU_ 5 (some 28) (b_ 8 63) HT ?_
     refine pureU_ 6 (some 29) (b_ 8 127) HT ?_
     refine pP_ 7 (some 30) (b_ 8 255) HT ?_
     refine done_ (done_of HT.out (by kernel_rfl)) ?_
     try go_wp2
     go_meet
     case rel => exact ⟨_, (false), rl_, H', ⟨by first | omega | exact Nat.le_refl _⟩, ⟨blkU_ BK205.out⟩, ⟨blkU_ BK206.out⟩, ⟨bel_⟩⟩
   case rest =>
    clear HC8
    (try clear c2); (try clear c5); (try clear c7); (try clear c7b0); (try clear c7b1); (try clear c14); (try clear c14b0); (try clear c14b1); (try clear z12_0 z12_1 z12_2 z12_3 z12_4); (try clear z13_0 z13_1 z13_2 z13_3 z13_4); (try clear f12_0 f12_1 f12_2 f12_3 f12_4); (try clear f13_0 f13_1 f13_2 f13_3 f13_4)
    obtain ⟨kq, x30_7, rfl, HA, HJ7, BK205, BK206, HB⟩ := hcut
    cases kq with
    | zero => exact absurd HA.out (by simp [spec_GrowthCheck.j0])
    | succ kj7 =>
     have H := HA.out
     clear HA
     simp only [spec_GrowthCheck.j0] at H
     by_cases c19 : x30_7 = true
     ·subst c19
      rw [if_pos rfl] at H
      obtain rfl := Option.some.inj H
      go_wp2
      go_ret
      exact ⟨rfl_, bel_⟩
     ·replace c19 := Bool.eq_false_iff.mpr c19
      subst c19
      rw [if_neg (show ¬ (false = true) by decide)] at H
      by_cases c20 : a0_0 = a1_0
      ·rw [if_pos c20] at H
       have c20b0 := beq_iff_eq.mpr c20
       have c20b1 := bne_eq_false_iff_eq.mpr c20
       clear c20
       by_cases c21 : (!(a1_1 == a0_1) || (!(a1_2 == a0_2) || (!(a1_3 == a0_3) || (!(a1_4 == a0_4))))) = true
       ·rw [if_pos c21] at H
        have c21b0 : (!(a1_1 == a0_1) || (!(a1_2 == a0_2) || (!(a1_3 == a0_3) || (!(a1_4 == a0_4))))) = true := c21
        clear c21
        obtain rfl := Option.some.inj H
        have hnb22 := NB206_205.out
        have hnc22 := NB205_206.out
        obtain ⟨z23_0, z23_1, z23_2, z23_3, z23_4, f23_0, f23_1, f23_2, f23_3, f23_4⟩ := cz5_ BK206.out
        obtain ⟨z24_0, z24_1, z24_2, z24_3, z24_4, f24_0, f24_1, f24_2, f24_3, f24_4⟩ := cz5_ BK205.out
        go_wp2
        go_ret
        exact ⟨rfl_, bel_⟩
       ·rw [if_neg c21] at H
        have c21b0 : (!(a1_1 == a0_1) || (!(a1_2 == a0_2) || (!(a1_3 == a0_3) || (!(a1_4 == a0_4))))) = false := by simpa using c21
        clear c21
        obtain rfl := Option.some.inj H
        have hnb25 := NB206_205.out
        have hnc25 := NB205_206.out
        obtain ⟨z26_0, z26_1, z26_2, z26_3, z26_4, f26_0, f26_1, f26_2, f26_3, f26_4⟩ := cz5_ BK206.out
        obtain ⟨z27_0, z27_1, z27_2, z27_3, z27_4, f27_0, f27_1, f27_2, f27_3, f27_4⟩ := cz5_ BK205.out
        go_wp2
        go_ret
        exact ⟨rfl_, bel_⟩
      ·rw [if_neg c20] at H
       have c20b0 := beq_eq_false_iff_ne.mpr c20
       have c20b1 := bne_iff_ne.mpr c20
       by_cases c28 : a0_0 = 0
       ·rw [if_pos c28] at H
        have c28b0 := beq_iff_eq.mpr c28
        have c28b1 := bne_eq_false_iff_eq.mpr c28
        clear c28
        obtain rfl := Option.some.inj H
        go_wp2
        go_ret
        exact ⟨rfl_, bel_⟩
       ·rw [if_neg c28] at H
        have c28b0 := beq_eq_false_iff_ne.mpr c28
        have c28b1 := bne_iff_ne.mpr c28
        obtain ⟨t213, A29, H⟩ := bnd_ H
        by_cases c30 : 0 ≤ t213
        ·rw [if_pos c30] at H
         have c30b0 := eq_true c30
         have c30b1 := decide_eq_true c30
         clear c30
         by_cases c31 : t213 ≤ (l2.length : Int)
         ·rw [if_pos c31] at H
          have c31b0 := eq_true c31
          have c31b1 := decide_eq_true c31
          clear c31
          obtain ⟨y214, hy214⟩ : ∃ y_ : List (S29), y_ = (l2.take (t213 : Int).toNat) := ⟨_, rfl⟩
          replace H : ((spec_PeaksRoot.f kj7 y214).bind fun bt218 => (if (!(bt218.1 == a0_1) || (!(bt218.2.1 == a0_2) || (!(bt218.2.2.1 == a0_3) || (!(bt218.2.2.2 == a0_4))))) = true then (some 3) else ((spec_l3Node.f kj7 0 a1_0 a0_0 a1_0 l2).bind fun bt222 => (if (!(bt222.1 == a1_1) || (!(bt222.2.1 == a1_2) || (!(bt222.2.2.1 == a1_3) || (!(bt222.2.2.2 == a1_4))))) = true then (some 4) else (some 0))))) = some r := rpl_ hy214 H
          have Ny214 := Aside0.mk hy214
          clear hy214
          obtain ⟨⟨t218, t219, t220, t221⟩, A32, H⟩ := bnd_ H
          dsimp only at H
          by_cases c33 : (!(t218 == a0_1) || (!(t219 == a0_2) || (!(t220 == a0_3) || (!(t221 == a0_4))))) = true
          ·rw [if_pos c33] at H
           have c33b0 : (!(t218 == a0_1) || (!(t219 == a0_2) || (!(t220 == a0_3) || (!(t221 == a0_4))))) = true := c33
           clear c33
           obtain rfl := Option.some.inj H
           try go_wp2
           replace BK205 := a_ (blk_drew BK205.out)
           replace BK206 := a_ (blk_drew BK206.out)
           replace HB := a_ (below_drew1 HB.out)
           refine start_ (n := 8) (S := fun w' => hd5_ w' gb205 (.int .i64 a0_0) (.int .u64 a0_1) (.int .u64 a0_2) (.int .u64 a0_3) (.int .u64 a0_4)) (ds := []) #[false, false, false, false, false, false, false, false] (by kernel_rfl) rfl rfl (hc5_ BK205.out) (fun hHeld => ?_); refine with_tabW spec_GrowthCheck.tab15 spec_GrowthCheck.bits15 (fun HT HW_ => ?_)
           generalize wc.drew = w34 at BK205 BK206 HB hHeld ⊢
           refine pP_ 0 (some 41) (b_ 8 1) HT ?_
           refine pP_ 1 (some 42) (b_ 8 3) HT ?_
           refine pP_ 5 (some 46) (b_ 8 35) HT ?_
           refine takeP_ 6 (some 47) (b_ 8 99) HT HW_ hHeld ?_
           refine oneP_ 2 (some 43) (b_ 8 103) HT (fun K hK => ?_)
           refine goN_ Try.func50 #[.int .i64 a0_0] ?_
           with_reducible refine (spec_PeaksCount.calls kj7 a0_0 t213 _ A29.out).mono ?_
           rintro e w' ⟨rfl, ⟨nd, rfl⟩⟩
           refine ⟨_, rfl, ?_⟩
           have q35 : (t213 : Int) ≤ ((l2.length : Int) : Int) := ofd_
           obtain ⟨i035, hi035, _, hsz35, _⟩ := info_parts info29
           have hroom35 : l2.length ≤ c2 := HC2.out
           have hC35 : Kd.C k29 _ A2 l2.length l2 := HR2.out
           have hcut35 := cut_to (P := Try.prog) 49 29 .i64 Try.underlying49 hi035 A2 l2.length c2 t213 (ofd_) q35 hroom35
           have hr35 := Kd.C_take (m := (t213 : Int).toNat) hC35 (by omega)
           have hy35 : y214.length = (t213 : Int).toNat := (by rw [Ny214.out, List.length_take]; omega)
           rw [← Ny214.out] at hr35
           rw [← hy35] at hcut35
           have HR217 := Aside0.mk hr35
           have HC217 := a_ (show y214.length ≤ c2 from by omega)
           clear hr35 hC35 hroom35 hi035 hsz35
           have KY35 := Aside0.mk hy35
           clear hy35
           replace q35 := eq_true q35
           refine hK.out _ _ (hc5_ BK205.out) (fun hHeld => ?_)
           clear hK K
           refine normP_ (some 43) ?_
           refine pP_ 3 (some 44) (b_ 8 111) HT ?_
           refine oneP_ 4 (some 45) (b_ 8 127) HT (fun K hK => ?_)
           refine goN_ Try.func73 #[.slice A2 y214.length c2] ?_
           with_reducible refine (spec_PeaksRoot.calls kj7 _ _ y214 t218 t219 t220 t221 _ ?side1 ?side2 A32.out).mono ?_
           (case side1 => exact cU_ (Kd.C_below HR217.out bel_))
           (case side2 => exact HC217.out)
           rintro e w36 ⟨rfl, hb⟩
           refine ⟨_, rfl, ?_⟩
           replace BK205 := bb_ BK205.out hb
           replace BK206 := bb_ BK206.out hb
           replace HB := stepB_ hb
           (try clear hb)
           refine hK.out _ _ (hc5_ BK205.out) (fun hHeld => ?_)
           clear hK K
           refine normP_ (some 45) ?_
           refine pP_ 7 (some 48) (b_ 8 255) HT ?_
           refine done_ (done_of HT.out (by kernel_rfl)) ?_
           try go_wp2
           go_ret
           exact ⟨rfl_, bel_⟩
          ·rw [if_neg c33] at H
           have c33b0 : (!(t218 == a0_1) || (!(t219 == a0_2) || (!(t220 == a0_3) || (!(t221 == a0_4))))) = false := by simpa using c33
           clear c33
           obtain ⟨⟨t222, t223, t224, t225⟩, A37, H⟩ := bnd_ H
           dsimp only at H
           by_cases c38 : (!(t222 == a1_1) || (!(t223 == a1_2) || (!(t224 == a1_3) || (!(t225 == a1_4))))) = true
           ·rw [if_pos c38] at H
            have c38b0 : (!(t222 == a1_1) || (!(t223 == a1_2) || (!(t224 == a1_3) || (!(t225 == a1_4))))) = true := c38
            clear c38
            obtain rfl := Option.some.inj H
            try go_wp2
            replace BK205 := a_ (blk_drew BK205.out)
            replace BK206 := a_ (blk_drew BK206.out)
            replace HB := a_ (below_drew1 HB.out)
            refine start_ (n := 8) (S := fun w' => hd5_ w' gb205 (.int .i64 a0_0) (.int .u64 a0_1) (.int .u64 a0_2) (.int .u64 a0_3) (.int .u64 a0_4)) (ds := []) #[false, false, false, false, false, false, false, false] (by kernel_rfl) rfl rfl (hc5_ BK205.out) (fun hHeld => ?_); refine with_tabW spec_GrowthCheck.tab15 spec_GrowthCheck.bits15 (fun HT HW_ => ?_)
            generalize wc.drew = w39 at BK205 BK206 HB hHeld ⊢
            refine pP_ 0 (some 41) (b_ 8 1) HT ?_
            refine pP_ 1 (some 42) (b_ 8 3) HT ?_
            refine pP_ 5 (some 46) (b_ 8 35) HT ?_
            refine takeP_ 6 (some 47) (b_ 8 99) HT HW_ hHeld ?_
            refine oneP_ 2 (some 43) (b_ 8 103) HT (fun K hK => ?_)
            refine goN_ Try.func50 #[.int .i64 a0_0] ?_
            with_reducible refine (spec_PeaksCount.calls kj7 a0_0 t213 _ A29.out).mono ?_
            rintro e w' ⟨rfl, ⟨nd, rfl⟩⟩
            refine ⟨_, rfl, ?_⟩
            have q40 : (t213 : Int) ≤ ((l2.length : Int) : Int) := ofd_
            obtain ⟨i040, hi040, _, hsz40, _⟩ := info_parts info29
            have hroom40 : l2.length ≤ c2 := HC2.out
            have hC40 : Kd.C k29 _ A2 l2.length l2 := HR2.out
            have hcut40 := cut_to (P := Try.prog) 49 29 .i64 Try.underlying49 hi040 A2 l2.length c2 t213 (ofd_) q40 hroom40
            have hr40 := Kd.C_take (m := (t213 : Int).toNat) hC40 (by omega)
            have hy40 : y214.length = (t213 : Int).toNat := (by rw [Ny214.out, List.length_take]; omega)
            rw [← Ny214.out] at hr40
            rw [← hy40] at hcut40
            have HR217 := Aside0.mk hr40
            have HC217 := a_ (show y214.length ≤ c2 from by omega)
            clear hr40 hC40 hroom40 hi040 hsz40
            have KY40 := Aside0.mk hy40
            clear hy40
            replace q40 := eq_true q40
            refine hK.out _ _ (hc5_ BK205.out) (fun hHeld => ?_)
            clear hK K
            refine normP_ (some 43) ?_
            refine pP_ 3 (some 44) (b_ 8 111) HT ?_
            refine oneP_ 4 (some 45) (b_ 8 127) HT (fun K hK => ?_)
            refine goN_ Try.func73 #[.slice A2 y214.length c2] ?_
            with_reducible refine (spec_PeaksRoot.calls kj7 _ _ y214 t218 t219 t220 t221 _ ?side1 ?side2 A32.out).mono ?_
            (case side1 => exact cU_ (Kd.C_below HR217.out bel_))
            (case side2 => exact HC217.out)
            rintro e w41 ⟨rfl, hb⟩
            refine ⟨_, rfl, ?_⟩
            replace BK205 := bb_ BK205.out hb
            replace BK206 := bb_ BK206.out hb
            replace HB := stepB_ hb
            (try clear hb)
            refine hK.out _ _ (hc5_ BK205.out) (fun hHeld => ?_)
            clear hK K
            refine normP_ (some 45) ?_
            refine pP_ 7 (some 48) (b_ 8 255) HT ?_
            refine done_ (done_of HT.out (by kernel_rfl)) ?_
            try go_wp2
            replace BK205 := a_ (blk_drew BK205.out)
            replace BK206 := a_ (blk_drew BK206.out)
            replace HB := a_ (below_drew1 HB.out)
            refine start_ (n := 8) (S := fun w' => hd5_ w' gb206 (.int .i64 a1_0) (.int .u64 a1_1) (.int .u64 a1_2) (.int .u64 a1_3) (.int .u64 a1_4)) (ds := []) #[false, false, false, false, false, false, false, false] (by kernel_rfl) rfl rfl (hc5_ BK206.out) (fun hHeld => ?_); refine with_tabW spec_GrowthCheck.tab17 spec_GrowthCheck.bits17 (fun HT HW_ => ?_)
            generalize w41.drew = w42 at BK205 BK206 HB hHeld ⊢
            refine pP_ 0 (some 49) (b_ 8 1) HT ?_
            refine pP_ 1 (some 50) (b_ 8 3) HT ?_
            refine pP_ 2 (some 51) (b_ 8 7) HT ?_
            refine pP_ 3 (some 52) (b_ 8 15) HT ?_
            refine pP_ 5 (some 54) (b_ 8 47) HT ?_
            refine takeP_ 6 (some 55) (b_ 8 111) HT HW_ hHeld ?_
            refine oneP_ 4 (some 53) (b_ 8 127) HT (fun K hK => ?_)
            refine goN_ Try.func74 #[.int .i64 0, .int .i64 a1_0, .int .i64 a0_0, .int .i64 a1_0, .slice A2 l2.length c2] ?_
            with_reducible refine (spec_l3Node.calls kj7 0 a1_0 a0_0 a1_0 _ _ l2 t222 t223 t224 t225 _ ?side1 ?side2 A37.out).mono ?_
            (case side1 => exact cU_ (Kd.C_below HR2.out HB.out))
            (case side2 => exact HC2.out)
            rintro e w43 ⟨rfl, hb⟩
            refine ⟨_, rfl, ?_⟩
            replace BK205 := bb_ BK205.out hb
            replace BK206 := bb_ BK206.out hb
            replace HB := stepB_ hb
            (try clear hb)
            refine hK.out _ _ (hc5_ BK206.out) (fun hHeld => ?_)
            clear hK K
            refine normP_ (some 53) ?_
            refine pP_ 7 (some 56) (b_ 8 255) HT ?_
            refine done_ (done_of HT.out (by kernel_rfl)) ?_
            try go_wp2
            go_ret
            exact ⟨rfl_, bel_⟩
           ·rw [if_neg c38] at H
            have c38b0 : (!(t222 == a1_1) || (!(t223 == a1_2) || (!(t224 == a1_3) || (!(t225 == a1_4))))) = false := by simpa using c38
            clear c38
            obtain rfl := Option.some.inj H
            try go_wp2
            replace BK205 := a_ (blk_drew BK205.out)
            replace BK206 := a_ (blk_drew BK206.out)
            replace HB := a_ (below_drew1 HB.out)
            refine start_ (n := 8) (S := fun w' => hd5_ w' gb205 (.int .i64 a0_0) (.int .u64 a0_1) (.int .u64 a0_2) (.int .u64 a0_3) (.int .u64 a0_4)) (ds := []) #[false, false, false, false, false, false, false, false] (by kernel_rfl) rfl rfl (hc5_ BK205.out) (fun hHeld => ?_); refine with_tabW spec_GrowthCheck.tab15 spec_GrowthCheck.bits15 (fun HT HW_ => ?_)
            generalize wc.drew = w44 at BK205 BK206 HB hHeld ⊢
            refine pP_ 0 (some 41) (b_ 8 1) HT ?_
            refine pP_ 1 (some 42) (b_ 8 3) HT ?_
            refine pP_ 5 (some 46) (b_ 8 35) HT ?_
            refine takeP_ 6 (some 47) (b_ 8 99) HT HW_ hHeld ?_
            refine oneP_ 2 (some 43) (b_ 8 103) HT (fun K hK => ?_)
            refine goN_ Try.func50 #[.int .i64 a0_0] ?_
            with_reducible refine (spec_PeaksCount.calls kj7 a0_0 t213 _ A29.out).mono ?_
            rintro e w' ⟨rfl, ⟨nd, rfl⟩⟩
            refine ⟨_, rfl, ?_⟩
            have q45 : (t213 : Int) ≤ ((l2.length : Int) : Int) := ofd_
            obtain ⟨i045, hi045, _, hsz45, _⟩ := info_parts info29
            have hroom45 : l2.length ≤ c2 := HC2.out
            have hC45 : Kd.C k29 _ A2 l2.length l2 := HR2.out
            have hcut45 := cut_to (P := Try.prog) 49 29 .i64 Try.underlying49 hi045 A2 l2.length c2 t213 (ofd_) q45 hroom45
            have hr45 := Kd.C_take (m := (t213 : Int).toNat) hC45 (by omega)
            have hy45 : y214.length = (t213 : Int).toNat := (by rw [Ny214.out, List.length_take]; omega)
            rw [← Ny214.out] at hr45
            rw [← hy45] at hcut45
            have HR217 := Aside0.mk hr45
            have HC217 := a_ (show y214.length ≤ c2 from by omega)
            clear hr45 hC45 hroom45 hi045 hsz45
            have KY45 := Aside0.mk hy45
            clear hy45
            replace q45 := eq_true q45
            refine hK.out _ _ (hc5_ BK205.out) (fun hHeld => ?_)
            clear hK K
            refine normP_ (some 43) ?_
            refine pP_ 3 (some 44) (b_ 8 111) HT ?_
            refine oneP_ 4 (some 45) (b_ 8 127) HT (fun K hK => ?_)
            refine goN_ Try.func73 #[.slice A2 y214.length c2] ?_
            with_reducible refine (spec_PeaksRoot.calls kj7 _ _ y214 t218 t219 t220 t221 _ ?side1 ?side2 A32.out).mono ?_
            (case side1 => exact cU_ (Kd.C_below HR217.out bel_))
            (case side2 => exact HC217.out)
            rintro e w46 ⟨rfl, hb⟩
            refine ⟨_, rfl, ?_⟩
            replace BK205 := bb_ BK205.out hb
            replace BK206 := bb_ BK206.out hb
            replace HB := stepB_ hb
            (try clear hb)
            refine hK.out _ _ (hc5_ BK205.out) (fun hHeld => ?_)
            clear hK K
            refine normP_ (some 45) ?_
            refine pP_ 7 (some 48) (b_ 8 255) HT ?_
            refine done_ (done_of HT.out (by kernel_rfl)) ?_
            try go_wp2
            replace BK205 := a_ (blk_drew BK205.out)
            replace BK206 := a_ (blk_drew BK206.out)
            replace HB := a_ (below_drew1 HB.out)
            refine start_ (n := 8) (S := fun w' => hd5_ w' gb206 (.int .i64 a1_0) (.int .u64 a1_1) (.int .u64 a1_2) (.int .u64 a1_3) (.int .u64 a1_4)) (ds := []) #[false, false, false, false, false, false, false, false] (by kernel_rfl) rfl rfl (hc5_ BK206.out) (fun hHeld => ?_); refine with_tabW spec_GrowthCheck.tab17 spec_GrowthCheck.bits17 (fun HT HW_ => ?_)
            generalize w46.drew = w47 at BK205 BK206 HB hHeld ⊢
            refine pP_ 0 (some 49) (b_ 8 1) HT ?_
            refine pP_ 1 (some 50) (b_ 8 3) HT ?_
            refine pP_ 2 (some 51) (b_ 8 7) HT ?_
            refine pP_ 3 (some 52) (b_ 8 15) HT ?_
            refine pP_ 5 (some 54) (b_ 8 47) HT ?_
            refine takeP_ 6 (some 55) (b_ 8 111) HT HW_ hHeld ?_
            refine oneP_ 4 (some 53) (b_ 8 127) HT (fun K hK => ?_)
            refine goN_ Try.func74 #[.int .i64 0, .int .i64 a1_0, .int .i64 a0_0, .int .i64 a1_0, .slice A2 l2.length c2] ?_
            with_reducible refine (spec_l3Node.calls kj7 0 a1_0 a0_0 a1_0 _ _ l2 t222 t223 t224 t225 _ ?side1 ?side2 A37.out).mono ?_
            (case side1 => exact cU_ (Kd.C_below HR2.out HB.out))
            (case side2 => exact HC2.out)
            rintro e w48 ⟨rfl, hb⟩
            refine ⟨_, rfl, ?_⟩
            replace BK205 := bb_ BK205.out hb
            replace BK206 := bb_ BK206.out hb
            replace HB := stepB_ hb
            (try clear hb)
            refine hK.out _ _ (hc5_ BK206.out) (fun hHeld => ?_)
            clear hK K
            refine normP_ (some 53) ?_
            refine pP_ 7 (some 56) (b_ 8 255) HT ?_
            refine done_ (done_of HT.out (by kernel_rfl)) ?_
            try go_wp2
            go_ret
            exact ⟨rfl_, bel_⟩
         ·rw [if_neg c31] at H
          exact absurd H (by simp)
        ·rw [if_neg c30] at H
         exact absurd H (by simp)
  ·rw [if_neg c7] at H
   have c7b0 := beq_eq_false_iff_ne.mpr c7
   have c7b1 := bne_iff_ne.mpr c7
   obtain rfl := Option.some.inj H
   go_enter Try.func35, Try.ntmps35
   go_wp2_with (first | ((with_reducible refine gate_dst (N := 3) rfl ?_); refine boxE_ (cs := #[.int .i64 a0_0, .int .u64 a0_1, .int .u64 a0_2, .int .u64 a0_3, .int .u64 a0_4]) (t := 31) ?_; intro gb205 hg w49 hbox hb; have BK205 := a_ (hbox); have GW205 := sizeB_ hg; replace HB := stepB_ hb; clear hb hbox hg) | ((with_reducible refine gate_dst (N := 4) rfl ?_); refine boxE_ (cs := #[.int .i64 a1_0, .int .u64 a1_1, .int .u64 a1_2, .int .u64 a1_3, .int .u64 a1_4]) (t := 31) ?_; intro gb206 hg w50 hbox hb; have BK206 := a_ (hbox); have GW206 := sizeB_ hg; replace HB := stepB_ hb; obtain ⟨NB205_206, NB206_205⟩ := ne2_ BK205.out hg; replace BK205 := bb_ BK205.out hb; clear hb hbox hg; have hnb51 := NB205_206.out; have hnc51 := NB206_205.out; obtain ⟨z52_0, z52_1, z52_2, z52_3, z52_4, f52_0, f52_1, f52_2, f52_3, f52_4⟩ := cz5_ BK205.out; obtain ⟨z53_0, z53_1, z53_2, z53_3, z53_4, f53_0, f53_1, f53_2, f53_3, f53_4⟩ := cz5_ BK206.out) | (refine gcL_ 66 (some 15) Try.func66 #[.int .i64 a0_0, .int .i64 a1_0] ?_; (with_reducible refine (spec_l3Sizes.calls a0_0 a1_0 true _ A4.out).mono ?_); rintro e w' ⟨rfl, ⟨nd, rfl⟩⟩; refine ⟨_, rfl, ?_⟩) | (refine gcL_ 32 (some 21) Try.func32 #[.int .i64 a0_0, .int .i64 a1_0] ?_; (with_reducible refine (spec_GrowthLen.calls k a0_0 a1_0 t208 _ A6.out).mono ?_); rintro e w' ⟨rfl, ⟨nd, rfl⟩⟩; refine ⟨_, rfl, ?_⟩))
   go_ret
   exact ⟨rfl_, bel_⟩
 ·replace c5 := Bool.eq_false_iff.mpr c5
  subst c5
  rw [if_neg (show ¬ (false = true) by decide)] at H
  obtain rfl := Option.some.inj H
  go_enter Try.func35, Try.ntmps35
  go_wp2_with (first | ((with_reducible refine gate_dst (N := 3) rfl ?_); refine boxE_ (cs := #[.int .i64 a0_0, .int .u64 a0_1, .int .u64 a0_2, .int .u64 a0_3, .int .u64 a0_4]) (t := 31) ?_; intro gb205 hg w54 hbox hb; have BK205 := a_ (hbox); have GW205 := sizeB_ hg; replace HB := stepB_ hb; clear hb hbox hg) | ((with_reducible refine gate_dst (N := 4) rfl ?_); refine boxE_ (cs := #[.int .i64 a1_0, .int .u64 a1_1, .int .u64 a1_2, .int .u64 a1_3, .int .u64 a1_4]) (t := 31) ?_; intro gb206 hg w55 hbox hb; have BK206 := a_ (hbox); have GW206 := sizeB_ hg; replace HB := stepB_ hb; obtain ⟨NB205_206, NB206_205⟩ := ne2_ BK205.out hg; replace BK205 := bb_ BK205.out hb; clear hb hbox hg; have hnb56 := NB205_206.out; have hnc56 := NB206_205.out; obtain ⟨z57_0, z57_1, z57_2, z57_3, z57_4, f57_0, f57_1, f57_2, f57_3, f57_4⟩ := cz5_ BK205.out; obtain ⟨z58_0, z58_1, z58_2, z58_3, z58_4, f58_0, f58_1, f58_2, f58_3, f58_4⟩ := cz5_ BK206.out) | (refine gcL_ 66 (some 15) Try.func66 #[.int .i64 a0_0, .int .i64 a1_0] ?_; (with_reducible refine (spec_l3Sizes.calls a0_0 a1_0 false _ A4.out).mono ?_); rintro e w' ⟨rfl, ⟨nd, rfl⟩⟩; refine ⟨_, rfl, ?_⟩))
  go_ret
  exact ⟨rfl_, bel_⟩
end
section
def spec_GrowthLift.j0 : Nat → Int → Int → Int → List (S29) → List (S29) → List (S29) → Bool → Option ((List (S29)) × Bool)
 | 0, _, _, _, _, _, _, _ => none
 | k + 1, x0, x1, x2, x3, x4, x12, x41 => if x41 = true then (some (x12, false)) else (if x0 = x1 then ((spec_l3Digests.f k x3 x12).bind fun t602 => (some (t602, true))) else ((spec_l3PeakOf.f k x0 x2).bind fun bt605 => ((spec_l3Depth.f k bt605.2).bind fun t607 => (if 0 ≤ t607 then (if t607 ≤ (x3.length : Int) then ((spec_l3Above.f k 0 x1 x2 x0 x1 x4).bind fun t612 => ((spec_l3Digests.f k (x3.take (t607 : Int).toNat) t612).bind fun t615 => (some (t615, true)))) else (none)) else (none)))))
def spec_GrowthLift.f (k : Nat) (a0 a1 a2 : Int) (l3 l4 : List (S29)) : Option ((List (S29)) × Bool) := (some (([] : List (S29)) : List (S29))).bind fun y595 => ((spec_l3Sizes.f a0 a1).bind fun t598 => (if t598 = true then ((spec_l3Place.f a0 a2).bind fun t599 => (if t599 = true then ((spec_PathLen.f k a0 a2).bind fun t600 => (if (l3.length : Int) = t600 then ((spec_GrowthLen.f k a0 a1).bind fun t601 => (spec_GrowthLift.j0 k a0 a1 a2 l3 l4 y595 ((l4.length : Int) != t601))) else (spec_GrowthLift.j0 k a0 a1 a2 l3 l4 y595 true))) else (spec_GrowthLift.j0 k a0 a1 a2 l3 l4 y595 true))) else (spec_GrowthLift.j0 k a0 a1 a2 l3 l4 y595 true)))
def spec_GrowthLift.T7 : Bool × List (List Nat × List Nat) := (true, [([], []), ([], []), ([1], [1]), ([0, 2], [0, 2]), ([], []), ([], []), ([], []), ([], []), ([], []), ([4, 5, 6, 7, 8, 2], [4, 5, 6, 7, 8]), ([3, 9, 9], [3, 9]), ([10, 10, 0, 1, 2, 3, 4, 5, 6, 7, 8, 9, 10], [10]), ([11, 0, 1, 2, 3, 4, 5, 6, 7, 8, 9, 10, 11], [])])
def spec_GrowthLift.B7 : List Nat := [0, 0, 2, 7, 0, 0, 0, 0, 0, 502, 1023, 2047, 4095]
theorem spec_GrowthLift.tab7 : rtab .any (opsOf Try.f41 7) = spec_GrowthLift.T7 := by kernel_rfl
theorem spec_GrowthLift.bits7 : waitsOk spec_GrowthLift.T7.2 spec_GrowthLift.B7 = true := by kernel_rfl
theorem spec_GrowthLift.calls (k : Nat) (a0 a1 a2 : Int) (A3 : Option Addr) (c3 : Nat) (l3 : List (S29)) (A4 : Option Addr) (c4 : Nat) (l4 r1 : List (S29)) (r2 : Bool) (w : World) (hr3 : Kd.C k29 w A3 l3.length l3) (hc3 : l3.length ≤ c3) (hr4 : Kd.C k29 w A4 l4.length l4) (hc4 : l4.length ≤ c4) (h : spec_GrowthLift.f k a0 a1 a2 l3 l4 = some (r1, r2)) :
  Calls Try.prog 41 #[.int .i64 a0, .int .i64 a1, .int .i64 a2, .slice A3 l3.length c3, .slice A4 l4.length c4] w fun e w' => ∃ v0_ : Value, e = .returned (.tuple #[v0_, .bool r2]) ∧ Kd.R k29 29 w' w.heap.size (fun _ => True) v0_ r1 ∧ Below w.heap.size w w' := by
 have HR3 := Aside0.mk hr3
 have HC3 := Aside0.mk hc3
 clear hr3 hc3
 have HR4 := Aside0.mk hr4
 have HC4 := Aside0.mk hc4
 clear hr4 hc4
 have HB := a_ (Below.refl w.heap.size w)
 have H := h
 unfold spec_GrowthLift.f at H
 clear h
 obtain ⟨y595, hy595⟩ : ∃ y_ : List (S29), y_ = (([] : List (S29))) := ⟨_, rfl⟩
 replace H : ((spec_l3Sizes.f a0 a1).bind fun t598 => (if t598 = true then ((spec_l3Place.f a0 a2).bind fun t599 => (if t599 = true then ((spec_PathLen.f k a0 a2).bind fun t600 => (if (l3.length : Int) = t600 then ((spec_GrowthLen.f k a0 a1).bind fun t601 => (spec_GrowthLift.j0 k a0 a1 a2 l3 l4 y595 ((l4.length : Int) != t601))) else (spec_GrowthLift.j0 k a0 a1 a2 l3 l4 y595 true))) else (spec_GrowthLift.j0 k a0 a1 a2 l3 l4 y595 true))) else (spec_GrowthLift.j0 k a0 a1 a2 l3 l4 y595 true))) = some (r1, r2) := rpl_ hy595 H
 have Ny595 := Aside0.mk hy595
 clear hy595
 have HC6 := Aside0.mk H
 clear H
 go_enter Try.func41, Try.ntmps41
 go_upto_region 2 with (first | ((with_reducible refine gate_dst (N := 15) rfl ?_); (try (refine gate_guard (by rfl) ?_; dsimp only)); refine Kd.R_lit k29 _ 29 ?hg (N := 15) ?hd (xs := ([] : List (S29))) (inner := []) (ok := fun _ => True) (okp := fun _ => True) ?hr ?hp (fun _ hk => hk) trivial (Below.refl _ _) (Nat.le_refl _) (by simp) ?_; (case hd => rfl); (case hg => rfl); (case hr => first | (go_simp; done) | (go_simp; rfl)); (case hp => exact (Reps.none _ _)); intro v596 w7 ho8 hb hg_ hnew_; clear hg_ hnew_; (first | rw [← Ny595.out] at ho8 | (simp only [Int.reduceToNat] at ho8; rw [← Ny595.out] at ho8)); have HO597 := a_ (Kd.R_lower ho8 (below_size bel_)); replace HB := stepB_ hb; clear hb ho8))
 (try simp only [Act.put, List.setIfInBounds_toArray, List.set_cons_zero, List.set_cons_succ])
 go_cut [41] (fun v41 wc => ∃ (kq : Nat) (x41_5 : Bool), v41 = .bool x41_5 ∧ Aside0 (spec_GrowthLift.j0 kq a0 a1 a2 l3 l4 y595 x41_5 = some (r1, r2)) ∧ Aside0 (kq ≤ k) ∧ Aside0 (Kd.R k29 29 wc w.heap.size (fun _ => True) v596 y595) ∧ Aside0 (Below w.heap.size w wc))
 case first =>
  have H := HC6.out
  clear HC6
  obtain ⟨t598, A9, H⟩ := bnd_ H
  by_cases c10 : t598 = true
  ·subst c10
   rw [if_pos rfl] at H
   obtain ⟨t599, A11, H⟩ := bnd_ H
   by_cases c12 : t599 = true
   ·subst c12
    rw [if_pos rfl] at H
    obtain ⟨t600, A13, H⟩ := bnd_ H
    by_cases c14 : (l3.length : Int) = t600
    ·rw [if_pos c14] at H
     have c14b0 := beq_iff_eq.mpr c14
     have c14b1 := bne_eq_false_iff_eq.mpr c14
     clear c14
     (first | rw [c14b0] | (simp only [i64_w, i32_w]; rw [c14b0]) | skip)
     obtain ⟨t601, A15, H⟩ := bnd_ H
     have H' := Aside0.mk H
     clear H
     go_wp2_with (first | (refine gcL_ 66 (some 18) Try.func66 #[.int .i64 a0, .int .i64 a1] ?_; (with_reducible refine (spec_l3Sizes.calls a0 a1 true _ A9.out).mono ?_); rintro e w' ⟨rfl, ⟨nd, rfl⟩⟩; refine ⟨_, rfl, ?_⟩) | (go_at_call 79; (with_reducible refine (spec_l3Place.calls a0 a2 true _ A11.out).mono ?_); rintro e w' ⟨rfl, ⟨nd, rfl⟩⟩) | (go_at_call 81; (with_reducible refine (spec_PathLen.calls k a0 a2 t600 _ A13.out).mono ?_); rintro e w' ⟨rfl, ⟨nd, rfl⟩⟩) | (go_at_call 32; (with_reducible refine (spec_GrowthLen.calls k a0 a1 t601 _ A15.out).mono ?_); rintro e w' ⟨rfl, ⟨nd, rfl⟩⟩))
     go_meet
     case rel => exact ⟨_, (((l4.length : Int) != t601)), rl_, H', ⟨by first | omega | exact Nat.le_refl _⟩, ⟨kdU_ HO597.out⟩, ⟨bel_⟩⟩
    ·rw [if_neg c14] at H
     have c14b0 := beq_eq_false_iff_ne.mpr c14
     have c14b1 := bne_iff_ne.mpr c14
     (first | rw [c14b0] | (simp only [i64_w, i32_w]; rw [c14b0]) | skip)
     have H' := Aside0.mk H
     clear H
     go_wp2_with (first | (refine gcL_ 66 (some 18) Try.func66 #[.int .i64 a0, .int .i64 a1] ?_; (with_reducible refine (spec_l3Sizes.calls a0 a1 true _ A9.out).mono ?_); rintro e w' ⟨rfl, ⟨nd, rfl⟩⟩; refine ⟨_, rfl, ?_⟩) | (go_at_call 79; (with_reducible refine (spec_l3Place.calls a0 a2 true _ A11.out).mono ?_); rintro e w' ⟨rfl, ⟨nd, rfl⟩⟩) | (go_at_call 81; (with_reducible refine (spec_PathLen.calls k a0 a2 t600 _ A13.out).mono ?_); rintro e w' ⟨rfl, ⟨nd, rfl⟩⟩))
     go_meet
     case rel => exact ⟨_, (true), rl_, H', ⟨by first | omega | exact Nat.le_refl _⟩, ⟨kdU_ HO597.out⟩, ⟨bel_⟩⟩
   ·replace c12 := Bool.eq_false_iff.mpr c12
    subst c12
    rw [if_neg (show ¬ (false = true) by decide)] at H
    have H' := Aside0.mk H
    clear H
    go_wp2_with (first | (refine gcL_ 66 (some 18) Try.func66 #[.int .i64 a0, .int .i64 a1] ?_; (with_reducible refine (spec_l3Sizes.calls a0 a1 true _ A9.out).mono ?_); rintro e w' ⟨rfl, ⟨nd, rfl⟩⟩; refine ⟨_, rfl, ?_⟩) | (go_at_call 79; (with_reducible refine (spec_l3Place.calls a0 a2 false _ A11.out).mono ?_); rintro e w' ⟨rfl, ⟨nd, rfl⟩⟩))
    go_meet
    case rel => exact ⟨_, (true), rl_, H', ⟨by first | omega | exact Nat.le_refl _⟩, ⟨kdU_ HO597.out⟩, ⟨bel_⟩⟩
  ·replace c10 := Bool.eq_false_iff.mpr c10
   subst c10
   rw [if_neg (show ¬ (false = true) by decide)] at H
   have H' := Aside0.mk H
   clear H
   go_wp2_with (first | (refine gcL_ 66 (some 18) Try.func66 #[.int .i64 a0, .int .i64 a1] ?_; (with_reducible refine (spec_l3Sizes.calls a0 a1 false _ A9.out).mono ?_); rintro e w' ⟨rfl, ⟨nd, rfl⟩⟩; refine ⟨_, rfl, ?_⟩))
   go_meet
   case rel => exact ⟨_, (true), rl_, H', ⟨by first | omega | exact Nat.le_refl _⟩, ⟨kdU_ HO597.out⟩, ⟨bel_⟩⟩
 case rest =>
  clear HC6
  (try clear c3); (try clear c4); (try clear c10); (try clear c12); (try clear c14); (try clear c14b0); (try clear c14b1)
  obtain ⟨kq, x41_5, rfl, HA, HJ5, HO_12, HB⟩ := hcut
  cases kq with
  | zero => exact absurd HA.out (by simp [spec_GrowthLift.j0])
  | succ kj5 =>
   have H := HA.out
   clear HA
   simp only [spec_GrowthLift.j0] at H
   by_cases c16 : x41_5 = true
   ·subst c16
    rw [if_pos rfl] at H
    simp only [Option.some.injEq, Prod.mk.injEq] at H
    obtain ⟨rfl, rfl⟩ := H
    go_wp2
    go_ret2
    exact ⟨_, rfl_, by (with_reducible repeat (first | apply Kd.R_alloc | apply Kd.R_drewN | apply Kd.R_drew)); exact HO_12.out, bel_⟩
   ·replace c16 := Bool.eq_false_iff.mpr c16
    subst c16
    rw [if_neg (show ¬ (false = true) by decide)] at H
    by_cases c17 : a0 = a1
    ·rw [if_pos c17] at H
     have c17b0 := beq_iff_eq.mpr c17
     have c17b1 := bne_eq_false_iff_eq.mpr c17
     clear c17
     obtain ⟨t602, A18, H⟩ := bnd_ H
     simp only [Option.some.injEq, Prod.mk.injEq] at H
     obtain ⟨rfl, rfl⟩ := H
     obtain ⟨Ao19, co19, eo19⟩ := Kd.R_slice HO_12.out
     subst eo19
     go_wp2_with (first | (refine gcL_ 82 (some 48) Try.func82 #[.slice A3 l3.length c3, .slice Ao19 y595.length co19] ?_; (with_reducible refine (spec_l3Digests.calls kj5 _ _ l3 _ _ y595 t602 _ ?side1 ?side2 ?side3 ?side4 A18.out).mono ?_); (case side1 => exact cU_ (Kd.C_below HR3.out HB.out)); (case side2 => exact HC3.out); (case side3 => exact cU_ (Kd.R_reads' HO_12.out).2.2); (case side4 => exact (Kd.R_reads' HO_12.out).2.1); rintro e w20 ⟨v603, rfl, ho0, hb⟩; refine ⟨_, rfl, ?_⟩; have HO604 := a_ (Kd.R_lower (Kd.R_new' ho0 (Kd.R_lt (kdU_ HO_12.out))) (below_size bel_)); replace HO_12 := a_ (Kd.R_elder' (kdU_ HO_12.out) (Kd.R_base ho0) hb); replace HB := stepB_ hb; (try clear hb); (try clear hk); (try clear ho0)))
     go_ret2
     exact ⟨_, rfl_, by (with_reducible repeat (first | apply Kd.R_alloc | apply Kd.R_drewN | apply Kd.R_drew)); exact Kd.R_mono HO604.out (fun _ hk => trivial), bel_⟩
    ·rw [if_neg c17] at H
     have c17b0 := beq_eq_false_iff_ne.mpr c17
     have c17b1 := bne_iff_ne.mpr c17
     obtain ⟨⟨t605, t606⟩, A21, H⟩ := bnd_ H
     dsimp only at H
     obtain ⟨t607, A22, H⟩ := bnd_ H
     by_cases c23 : 0 ≤ t607
     ·rw [if_pos c23] at H
      have c23b0 := eq_true c23
      have c23b1 := decide_eq_true c23
      clear c23
      by_cases c24 : t607 ≤ (l3.length : Int)
      ·rw [if_pos c24] at H
       have c24b0 := eq_true c24
       have c24b1 := decide_eq_true c24
       clear c24
       obtain ⟨y608, hy608⟩ : ∃ y_ : List (S29), y_ = (l3.take (t607 : Int).toNat) := ⟨_, rfl⟩
       replace H : ((spec_l3Above.f kj5 0 a1 a2 a0 a1 l4).bind fun t612 => ((spec_l3Digests.f kj5 y608 t612).bind fun t615 => (some (t615, true)))) = some (r1, r2) := rpl_ hy608 H
       have Ny608 := Aside0.mk hy608
       clear hy608
       obtain ⟨t612, A25, H⟩ := bnd_ H
       obtain ⟨t615, A26, H⟩ := bnd_ H
       simp only [Option.some.injEq, Prod.mk.injEq] at H
       obtain ⟨rfl, rfl⟩ := H
       try go_wp2_with (first | (refine gcL_ 83 (some 52) Try.func83 #[.int .i64 a0, .int .i64 a2] ?_; (with_reducible refine (spec_l3PeakOf.calls kj5 a0 a2 t605 t606 _ A21.out).mono ?_); rintro e w' ⟨rfl, ⟨nd, rfl⟩⟩; refine ⟨_, rfl, ?_⟩))
       (try (rw [drewN_self wc]; generalize hq_ : World.drewN wc _ = wc; have n0_ : Aside0 (Kd.R k29 29 wc w.heap.size (fun _ => True) v596 y595) := ⟨by rw [← hq_]; exact (kdU_ HO_12.out)⟩; have n1_ : Aside0 (Below w.heap.size w wc) := ⟨by rw [← hq_]; exact bel_⟩; clear HO_12 HB hq_; have HO_12 := n0_; have HB := n1_; clear n0_ n1_))
       replace HO_12 := a_ (Kd.R_drew HO_12.out)
       replace HB := a_ (below_drew1 HB.out)
       refine start_ (n := 13) (S := fun w' => True) (ds := []) #[false, false, false, false, false, false, false, false, false, false, false, false, false] (by kernel_rfl) rfl rfl trivial (fun hHeld => ?_); refine with_tabW spec_GrowthLift.tab7 spec_GrowthLift.bits7 (fun HT HW_ => ?_)
       generalize wc.drew = w27 at HO_12 HB hHeld ⊢
       refine pP_ 0 (some 55) (b_ 13 1) HT ?_
       refine pP_ 1 (some 56) (b_ 13 3) HT ?_
       refine pP_ 4 (some 59) (b_ 13 19) HT ?_
       refine pP_ 5 (some 60) (b_ 13 51) HT ?_
       refine pP_ 6 (some 61) (b_ 13 115) HT ?_
       refine pP_ 7 (some 62) (b_ 13 243) HT ?_
       refine pP_ 8 (some 63) (b_ 13 499) HT ?_
       refine oneP_ 2 (some 57) (b_ 13 503) HT (fun K hK => ?_)
       refine goN_ Try.func84 #[.int .i64 t606] ?_
       with_reducible refine (spec_l3Depth.calls kj5 t606 t607 _ A22.out).mono ?_
       rintro e w' ⟨rfl, ⟨nd, rfl⟩⟩
       refine ⟨_, rfl, ?_⟩
       have q28 : (t607 : Int) ≤ ((l3.length : Int) : Int) := ofd_
       obtain ⟨i028, hi028, _, hsz28, _⟩ := info_parts info29
       have hroom28 : l3.length ≤ c3 := HC3.out
       have hC28 : Kd.C k29 _ A3 l3.length l3 := HR3.out
       have hcut28 := cut_to (P := Try.prog) 49 29 .i64 Try.underlying49 hi028 A3 l3.length c3 t607 (ofd_) q28 hroom28
       have hr28 := Kd.C_take (m := (t607 : Int).toNat) hC28 (by omega)
       have hy28 : y608.length = (t607 : Int).toNat := (by rw [Ny608.out, List.length_take]; omega)
       rw [← Ny608.out] at hr28
       rw [← hy28] at hcut28
       have HR611 := Aside0.mk hr28
       have HC611 := a_ (show y608.length ≤ c3 from by omega)
       clear hr28 hC28 hroom28 hi028 hsz28
       have KY28 := Aside0.mk hy28
       clear hy28
       replace q28 := eq_true q28
       refine hK.out _ _ trivial (fun hHeld => ?_)
       clear hK K
       refine normP_ (some 57) ?_
       refine pP_ 3 (some 58) (b_ 13 511) HT ?_
       refine oneP_ 9 (some 64) (b_ 13 1023) HT (fun K hK => ?_)
       refine goN_ Try.func85 #[.int .i64 0, .int .i64 a1, .int .i64 a2, .int .i64 a0, .int .i64 a1, .slice A4 l4.length c4] ?_
       with_reducible refine (spec_l3Above.calls kj5 0 a1 a2 a0 a1 _ _ l4 t612 _ ?side1 ?side2 A25.out).mono ?_
       (case side1 => exact cU_ (Kd.C_below HR4.out bel_))
       (case side2 => exact HC4.out)
       rintro e w29 ⟨v613, rfl, ho0, hb⟩
       refine ⟨_, rfl, ?_⟩
       have HO614 := a_ (Kd.R_lower (Kd.R_new' ho0 (Kd.R_lt (kdU_ HO_12.out))) (below_size bel_))
       replace HO_12 := a_ (Kd.R_elder' (kdU_ HO_12.out) (Kd.R_base ho0) hb)
       replace HB := stepB_ hb
       (try clear hb); (try clear hk); (try clear ho0)
       obtain ⟨Ao30, co30, eo30⟩ := Kd.R_slice HO614.out
       (first | subst eo30 | (injection eo30 with f1_ f2_ f3_; have f4_ := f1_.symm; have f5_ := f3_.symm; clear f1_ f2_ f3_; subst f4_; subst f5_))
       refine hK.out _ _ trivial (fun hHeld => ?_)
       clear hK K
       refine normP_ (some 64) ?_
       refine oneP_ 10 (some 65) (b_ 13 2047) HT (fun K hK => ?_)
       refine goN_ Try.func82 #[.slice A3 y608.length c3, .slice Ao30 t612.length co30] ?_
       with_reducible refine (spec_l3Digests.calls kj5 _ _ y608 _ _ t612 t615 _ ?side1 ?side2 ?side3 ?side4 A26.out).mono ?_
       (case side1 => exact cU_ (Kd.C_below HR611.out HB.out))
       (case side2 => exact HC611.out)
       (case side3 => exact cU_ (Kd.R_reads' HO614.out).2.2)
       (case side4 => exact (Kd.R_reads' HO614.out).2.1)
       rintro e w31 ⟨v616, rfl, ho0, hb⟩
       refine ⟨_, rfl, ?_⟩
       have HO617 := a_ (Kd.R_lower (Kd.R_new' (Kd.R_new' ho0 (Kd.R_lt (kdU_ HO_12.out))) (Kd.R_lt (kdU_ HO614.out))) (below_size bel_))
       replace HO_12 := a_ (Kd.R_elder' (kdU_ HO_12.out) (Kd.R_base ho0) hb)
       replace HO614 := a_ (Kd.R_elder' (kdU_ HO614.out) (Kd.R_base ho0) hb)
       replace HB := stepB_ hb
       (try clear hb); (try clear hk); (try clear ho0)
       refine hK.out _ _ trivial (fun hHeld => ?_)
       clear hK K
       refine normP_ (some 65) ?_
       refine pP_ 11 (some 10) (b_ 13 4095) HT ?_
       refine pP_ 12 (some 11) (b_ 13 8191) HT ?_
       refine done_ (done_of HT.out (by kernel_rfl)) ?_
       try go_wp2
       go_ret2
       exact ⟨_, rfl_, by (with_reducible repeat (first | apply Kd.R_alloc | apply Kd.R_drewN | apply Kd.R_drew)); exact Kd.R_mono HO617.out (fun _ hk => trivial), bel_⟩
      ·rw [if_neg c24] at H
       exact absurd H (by simp)
     ·rw [if_neg c23] at H
      exact absurd H (by simp)
end
end
end Go.Proofs.Ytflckegggopdnaa.B
