/- What the Go functions loop.example/belfry/spec.GrowthCheck do is what the Lean functions .f of their names here say; condition: .f gives an answer. (Written by the session's program pp.py over the kit's print; Lean checks it.) -/
import Derived.Test.YtflckegggopdnaaZCEK
import Derived.Test.YtflckegggopdnaaZCEM
import Derived.Test.YtflckegggopdnaaZCEFSpecL3Node
import Derived.Test.YtflckegggopdnaaZCEGCount1
import Derived.Test.YtflckegggopdnaaZCEGEq1
import Derived.Test.YtflckegggopdnaaZCEGFall1
import Derived.Test.YtflckegggopdnaaZCEGPeaksR1
import Derived.Test.YtflckegggopdnaaZCEGSpecHash1
namespace Go.Proofs.Ytflckegggopdnaa.B
open Go.RowKit Go.Proofs.YtflckegggopdnaaW.PrintWords Go.Proofs.YtflckegggopdnaaW.PrintLast Go.Proofs.YtflckegggopdnaaW.PrintMore
attribute [local go_sem] max2_int min2_int max_two min_two max_three min_three max_four min_four
set_option linter.unusedVariables false
set_option linter.unusedSimpArgs false
section
attribute [local go_sem high] eqA29
def spec_GrowthCheck.j0 : Nat → List (S29) → Int → Int → Bool → Int → Int → Int → Int → Int → Int → Int → Int → Int → Int → Option (Int)
  | 0, _, _, _, _, _, _, _, _, _, _, _, _, _, _ => none
  | k + 1, x2, x7, x8, x30, x206000, x206001, x206002, x206003, x206004, x207000, x207001, x207002, x207003, x207004 => if x30 = true then (some 3) else (if x7 = x8 then (if (!(x207001 == x206001) || (!(x207002 == x206002) || (!(x207003 == x206003) || (!(x207004 == x206004))))) = true then (some 4) else (some 0)) else (if x7 = 0 then (some 0) else ((spec_PeaksCount.f k x7).bind fun t213 => (if 0 ≤ t213 then (if t213 ≤ (x2.length : Int) then ((spec_PeaksRoot.f k (x2.take (t213 : Int).toNat)).bind fun bt218 => (if (!(bt218.1 == x206001) || (!(bt218.2.1 == x206002) || (!(bt218.2.2.1 == x206003) || (!(bt218.2.2.2 == x206004))))) = true then (some 3) else ((spec_l3Node.f k 0 x8 x7 x8 x2).bind fun bt222 => (if (!(bt222.1 == x207001) || (!(bt222.2.1 == x207002) || (!(bt222.2.2.1 == x207003) || (!(bt222.2.2.2 == x207004))))) = true then (some 4) else (some 0))))) else (none)) else (none)))))
def spec_GrowthCheck.f (k : Nat) (a0_0 : Int) (a0_1 : Int) (a0_2 : Int) (a0_3 : Int) (a0_4 : Int) (a1_0 : Int) (a1_1 : Int) (a1_2 : Int) (a1_3 : Int) (a1_4 : Int) (l2 : List (S29)) : Option (Int) := (spec_l3Sizes.f a0_0 a1_0).bind fun t207 => (if t207 = true then ((spec_GrowthLen.f k a0_0 a1_0).bind fun t208 => (if (l2.length : Int) = t208 then (if a0_0 = 0 then ((spec_HashOf.f k (⟨#[]⟩ : ByteArray)).bind fun bt209 => (spec_GrowthCheck.j0 k l2 a0_0 a1_0 (!(a0_1 == bt209.1) || (!(a0_2 == bt209.2.1) || (!(a0_3 == bt209.2.2.1) || (!(a0_4 == bt209.2.2.2))))) a0_0 a0_1 a0_2 a0_3 a0_4 a1_0 a1_1 a1_2 a1_3 a1_4)) else (spec_GrowthCheck.j0 k l2 a0_0 a1_0 false a0_0 a0_1 a0_2 a0_3 a0_4 a1_0 a1_1 a1_2 a1_3 a1_4)) else (some 2))) else (some 1))
def spec_GrowthCheck.T7 : Bool × List (List Nat × List Nat) := (true, [([], []), ([0], [0]), ([1], [1]), ([2], [2]), ([3, 2], [2, 3]), ([2, 2], [2]), ([4, 5, 2], [2, 4, 5]), ([2, 6], [2, 6])])
def spec_GrowthCheck.B7 : List Nat := [0, 1, 3, 7, 15, 7, 63, 127]
theorem spec_GrowthCheck.tab7 : rtab .any (opsOf Try.f35 7) = spec_GrowthCheck.T7 := by kernel_rfl
theorem spec_GrowthCheck.bits7 : waitsOk spec_GrowthCheck.T7.2 spec_GrowthCheck.B7 = true := by kernel_rfl
def spec_GrowthCheck.T15 : Bool × List (List Nat × List Nat) := (true, [([], []), ([], []), ([1], [1]), ([0, 2], [0, 2]), ([3, 2], [3]), ([], []), ([5], [5]), ([4, 6], [4, 6])])
def spec_GrowthCheck.B15 : List Nat := [0, 0, 2, 7, 15, 0, 32, 127]
theorem spec_GrowthCheck.tab15 : rtab .any (opsOf Try.f35 15) = spec_GrowthCheck.T15 := by kernel_rfl
theorem spec_GrowthCheck.bits15 : waitsOk spec_GrowthCheck.T15.2 spec_GrowthCheck.B15 = true := by kernel_rfl
def spec_GrowthCheck.T17 : Bool × List (List Nat × List Nat) := (true, [([], []), ([], []), ([], []), ([], []), ([0, 1, 2, 3], [0, 1, 2, 3]), ([], []), ([5], [5]), ([4, 6], [4, 6])])
def spec_GrowthCheck.B17 : List Nat := [0, 0, 0, 0, 15, 0, 32, 127]
theorem spec_GrowthCheck.tab17 : rtab .any (opsOf Try.f35 17) = spec_GrowthCheck.T17 := by kernel_rfl
theorem spec_GrowthCheck.bits17 : waitsOk spec_GrowthCheck.T17.2 spec_GrowthCheck.B17 = true := by kernel_rfl
set_option maxHeartbeats 8000000 in
set_option maxRecDepth 100000 in
theorem spec_GrowthCheck.calls (k : Nat) (a0_0 : Int) (a0_1 : Int) (a0_2 : Int) (a0_3 : Int) (a0_4 : Int) (a1_0 : Int) (a1_1 : Int) (a1_2 : Int) (a1_3 : Int) (a1_4 : Int) (A2 : Option Addr) (c2 : Nat) (l2 : List (S29)) (r : Int) (w : World) (hr2 : Kd.C k29 w A2 l2.length l2) (hc2 : l2.length ≤ c2) (h : spec_GrowthCheck.f k a0_0 a0_1 a0_2 a0_3 a0_4 a1_0 a1_1 a1_2 a1_3 a1_4 l2 = some r) :
    Calls Try.prog 35 #[.agg #[.int .i64 a0_0, .int .u64 a0_1, .int .u64 a0_2, .int .u64 a0_3, .int .u64 a0_4], .agg #[.int .i64 a1_0, .int .u64 a1_1, .int .u64 a1_2, .int .u64 a1_3, .int .u64 a1_4], .slice A2 l2.length c2] w fun e w' => e = .returned (.int .i64 r) ∧ Below w.heap.size w w' := by
  have hu31 := Try.underlying31
  have hu29 := Try.underlying29
  have HR2 := Aside0.mk hr2
  have HC2 := Aside0.mk hc2
  clear hr2 hc2
  have HB := Aside0.mk (Below.refl w.heap.size w)
  have H : ((spec_l3Sizes.f a0_0 a1_0).bind fun t207 => (if t207 = true then ((spec_GrowthLen.f k a0_0 a1_0).bind fun t208 => (if (l2.length : Int) = t208 then (if a0_0 = 0 then ((spec_HashOf.f k (⟨#[]⟩ : ByteArray)).bind fun bt209 => (spec_GrowthCheck.j0 k l2 a0_0 a1_0 (!(a0_1 == bt209.1) || (!(a0_2 == bt209.2.1) || (!(a0_3 == bt209.2.2.1) || (!(a0_4 == bt209.2.2.2))))) a0_0 a0_1 a0_2 a0_3 a0_4 a1_0 a1_1 a1_2 a1_3 a1_4)) else (spec_GrowthCheck.j0 k l2 a0_0 a1_0 false a0_0 a0_1 a0_2 a0_3 a0_4 a1_0 a1_1 a1_2 a1_3 a1_4)) else (some 2))) else (some 1))) = some r := h
  clear h
  obtain ⟨t207, A4, H⟩ := bnd_ H
  by_cases c5 : t207 = true
  · subst c5
    rw [if_pos rfl] at H
    obtain ⟨t208, A6, H⟩ := bnd_ H
    by_cases c7 : (l2.length : Int) = t208
    · rw [if_pos c7] at H
      have c7b0 : ((l2.length : Int) == t208) = true := beq_iff_eq.mpr c7
      have c7b1 : ((l2.length : Int) != t208) = false := bne_eq_false_iff_eq.mpr c7
      clear c7
      have HC8 := Aside0.mk H
      clear H
      go_enter Try.func35, Try.ntmps35
      go_upto_region 7 with (first | ((with_reducible refine gate_dst (N := 3) rfl ?_); refine boxE_ (cs := #[.int .i64 a0_0, .int .u64 a0_1, .int .u64 a0_2, .int .u64 a0_3, .int .u64 a0_4]) (t := 31) ?_; intro gb205 hg w9 hbox hb; have BK205 := Aside0.mk (hbox); have GW205 := sizeB_ hg; have GE205 := sizeB_ hg; replace HB := stepB_ hb; clear hb hbox hg) | ((with_reducible refine gate_dst (N := 4) rfl ?_); refine boxE_ (cs := #[.int .i64 a1_0, .int .u64 a1_1, .int .u64 a1_2, .int .u64 a1_3, .int .u64 a1_4]) (t := 31) ?_; intro gb206 hg w10 hbox hb; have BK206 := Aside0.mk (hbox); have GW206 := sizeB_ hg; have GE206 := sizeB_ hg; replace HB := stepB_ hb; have NB205_206 := neL_ BK205.out hg; have NB206_205 := neG_ BK205.out hg; replace BK205 := blkBel_ BK205.out hb; clear hb hbox hg; have hnb11 := NB205_206.out; have hnc11 := NB206_205.out; obtain ⟨hcz12_0, hcz12_1, hcz12_2, hcz12_3, hcz12_4, hfz12_0, hfz12_1, hfz12_2, hfz12_3, hfz12_4⟩ := cz5_ BK205.out; obtain ⟨hcz13_0, hcz13_1, hcz13_2, hcz13_3, hcz13_4, hfz13_0, hfz13_1, hfz13_2, hfz13_3, hfz13_4⟩ := cz5_ BK206.out) | ((with_reducible refine gate_callee (f := 66) rfl ?_); refine goL_ (some 15) Try.func66 #[.int .i64 a0_0, .int .i64 a1_0] ?_; (with_reducible refine (spec_l3Sizes.calls a0_0 a1_0 true _ A4.out).mono ?_); rintro e w10 ⟨rfl, hd_⟩; refine ⟨_, rfl, ?_⟩; replace BK205 := drawnK_ BK205.out hd_; replace BK206 := drawnK_ BK206.out hd_; replace HB := drawnB_ HB.out hd_; clear hd_; obtain ⟨hcz12_0, hcz12_1, hcz12_2, hcz12_3, hcz12_4, hfz12_0, hfz12_1, hfz12_2, hfz12_3, hfz12_4⟩ := cz5_ BK205.out; obtain ⟨hcz13_0, hcz13_1, hcz13_2, hcz13_3, hcz13_4, hfz13_0, hfz13_1, hfz13_2, hfz13_3, hfz13_4⟩ := cz5_ BK206.out) | ((with_reducible refine gate_callee (f := 32) rfl ?_); refine goL_ (some 21) Try.func32 #[.int .i64 a0_0, .int .i64 a1_0] ?_; (with_reducible refine (spec_GrowthLen.calls k a0_0 a1_0 t208 _ A6.out).mono ?_); rintro e w10 ⟨rfl, hd_⟩; refine ⟨_, rfl, ?_⟩; replace BK205 := drawnK_ BK205.out hd_; replace BK206 := drawnK_ BK206.out hd_; replace HB := drawnB_ HB.out hd_; clear hd_; obtain ⟨hcz12_0, hcz12_1, hcz12_2, hcz12_3, hcz12_4, hfz12_0, hfz12_1, hfz12_2, hfz12_3, hfz12_4⟩ := cz5_ BK205.out; obtain ⟨hcz13_0, hcz13_1, hcz13_2, hcz13_3, hcz13_4, hfz13_0, hfz13_1, hfz13_2, hfz13_3, hfz13_4⟩ := cz5_ BK206.out))
      (try simp only [Act.put, List.setIfInBounds_toArray, List.set_cons_zero, List.set_cons_succ])
      go_cut [30] (fun v30 wc => ∃ (kq : Nat) (x30_7 : Bool), v30 = .bool x30_7 ∧ Aside0 (spec_GrowthCheck.j0 kq l2 a0_0 a1_0 x30_7 a0_0 a0_1 a0_2 a0_3 a0_4 a1_0 a1_1 a1_2 a1_3 a1_4 = some r) ∧ Aside0 (kq ≤ k) ∧ Aside0 (wc.heap[gb205]? = some (.cells #[.int .i64 a0_0, .int .u64 a0_1, .int .u64 a0_2, .int .u64 a0_3, .int .u64 a0_4] 31 (0, 0))) ∧ Aside0 (wc.heap[gb206]? = some (.cells #[.int .i64 a1_0, .int .u64 a1_1, .int .u64 a1_2, .int .u64 a1_3, .int .u64 a1_4] 31 (0, 0))) ∧ Aside0 (Below w.heap.size w wc))
      case first =>
        have H := HC8.out
        clear HC8
        by_cases c14 : a0_0 = 0
        · rw [if_pos c14] at H
          have c14b0 : (a0_0 == 0) = true := beq_iff_eq.mpr c14
          have c14b1 : (a0_0 != 0) = false := bne_eq_false_iff_eq.mpr c14
          clear c14
          (first | rw [c14b0] | (simp only [i64_w, i32_w]; rw [c14b0]) | skip)
          obtain ⟨⟨t209, t210, t211, t212⟩, A15, H⟩ := bnd_ H
          dsimp only at H
          have H' := Aside0.mk H
          clear H
          try go_wp2
          replace BK205 := Aside0.mk (blk_drew BK205.out)
          replace BK206 := Aside0.mk (blk_drew BK206.out)
          replace HB := Aside0.mk (below_drew1 HB.out)
          refine start_ (n := 8) (S := fun w' => w'.cell? ⟨gb205, 0, none⟩ = some (.int .i64 a0_0) ∧ w'.cell? ⟨gb205, 1, none⟩ = some (.int .u64 a0_1) ∧ w'.cell? ⟨gb205, 2, none⟩ = some (.int .u64 a0_2) ∧ w'.cell? ⟨gb205, 3, none⟩ = some (.int .u64 a0_3) ∧ w'.cell? ⟨gb205, 4, none⟩ = some (.int .u64 a0_4)) (ds := []) #[false, false, false, false, false, false, false, false] (by kernel_rfl) rfl rfl ⟨(blk_cell BK205.out 0).trans rfl, (blk_cell BK205.out 1).trans rfl, (blk_cell BK205.out 2).trans rfl, (blk_cell BK205.out 3).trans rfl, (blk_cell BK205.out 4).trans rfl⟩ (fun hHeld => ?_); refine with_tabW spec_GrowthCheck.tab7 spec_GrowthCheck.bits7 (fun HT_ HW_ => ?_)
          generalize w10.drew = w16 at BK205 BK206 HB hHeld ⊢
          refine pureP_ 0 (some 23) #[true, false, false, false, false, false, false, false] HT_ ?_
          refine pureP_ 1 (some 24) #[true, true, false, false, false, false, false, false] HT_ ?_
          refine pureP_ 2 (some 25) #[true, true, true, false, false, false, false, false] HT_ ?_
          refine pureP_ 3 (some 26) #[true, true, true, true, false, false, false, false] HT_ ?_
          refine takeP_ 4 (some 27) #[true, true, true, true, true, false, false, false] HT_ HW_ hHeld ?_
          refine oneP_ 5 (some 28) #[true, true, true, true, true, true, false, false] HT_ (fun K hK => ?_)
          refine goN_ Try.func72 #[.string (⟨#[]⟩ : ByteArray)] ?_
          with_reducible refine (spec_HashOf.calls k (⟨#[]⟩ : ByteArray) t209 t210 t211 t212 _ A15.out).mono ?_
          rintro e w17 ⟨rfl, hb⟩
          refine ⟨_, rfl, ?_⟩
          replace BK205 := blkBel_ BK205.out hb
          replace BK206 := blkBel_ BK206.out hb
          replace HB := stepB_ hb
          (try clear hb)
          refine hK.out _ _ ⟨(blk_cell BK205.out 0).trans rfl, (blk_cell BK205.out 1).trans rfl, (blk_cell BK205.out 2).trans rfl, (blk_cell BK205.out 3).trans rfl, (blk_cell BK205.out 4).trans rfl⟩ (fun hHeld => ?_)
          clear hK K
          refine norm_ (a' := ?_) ?_ ?_
          rotate_left
          · show Act.put _ (some 28) _ = _
            simp only [Act.put, List.setIfInBounds_toArray, List.set_cons_zero, List.set_cons_succ, i64_w, i32_w]
            rfl
          refine pureP_ 6 (some 29) #[true, true, true, true, true, true, true, false] HT_ ?_
          refine pureP_ 7 (some 30) #[true, true, true, true, true, true, true, true] HT_ ?_
          refine done_ (done_of HT_.out (by kernel_rfl)) ?_
          try go_wp2
          go_meet
          case rel => exact ⟨_, ((!(a0_1 == t209) || (!(a0_2 == t210) || (!(a0_3 == t211) || (!(a0_4 == t212)))))), (by first | rfl | (simp; done) | (simp [*]; done)), H', ⟨by first | omega | exact Nat.le_refl _⟩, ⟨blkU_ BK205.out⟩, ⟨blkU_ BK206.out⟩, ⟨bel_⟩⟩
        · rw [if_neg c14] at H
          have c14b0 : (a0_0 == 0) = false := beq_eq_false_iff_ne.mpr c14
          have c14b1 : (a0_0 != 0) = true := bne_iff_ne.mpr c14
          (first | rw [c14b0] | (simp only [i64_w, i32_w]; rw [c14b0]) | skip)
          have H' := Aside0.mk H
          clear H
          try go_wp2
          replace BK205 := Aside0.mk (blk_drew BK205.out)
          replace BK206 := Aside0.mk (blk_drew BK206.out)
          replace HB := Aside0.mk (below_drew1 HB.out)
          refine start_ (n := 8) (S := fun w' => True) (ds := []) #[false, false, false, false, false, false, false, false] (by kernel_rfl) rfl rfl trivial (fun hHeld => ?_); refine with_tabW spec_GrowthCheck.tab7 spec_GrowthCheck.bits7 (fun HT_ HW_ => ?_)
          generalize w10.drew = w18 at BK205 BK206 HB hHeld ⊢
          refine pureP_ 0 (some 23) #[true, false, false, false, false, false, false, false] HT_ ?_
          refine pureP_ 1 (some 24) #[true, true, false, false, false, false, false, false] HT_ ?_
          refine pureP_ 2 (some 25) #[true, true, true, false, false, false, false, false] HT_ ?_
          refine pure_ (i := 3) (N := some 26) (v := undef) (a' := ?_) #[true, true, true, true, false, false, false, false] rfl rfl (any_of HT_.out (by kernel_rfl)) (fun _ _ _ h => h) (Or.inr ⟨by rfl, rfl⟩) ?_ ?_
          rotate_left
          · simp only [Act.put, List.setIfInBounds_toArray, List.set_cons_zero, List.set_cons_succ, i64_w, i32_w]
            rfl
          refine pure_ (i := 4) (N := some 27) (v := undef) (a' := ?_) #[true, true, true, true, true, false, false, false] rfl rfl (any_of HT_.out (by kernel_rfl)) (fun _ _ _ h => h) (Or.inr ⟨by rfl, rfl⟩) ?_ ?_
          rotate_left
          · simp only [Act.put, List.setIfInBounds_toArray, List.set_cons_zero, List.set_cons_succ, i64_w, i32_w]
            rfl
          refine pure_ (i := 5) (N := some 28) (v := undef) (a' := ?_) #[true, true, true, true, true, true, false, false] rfl rfl (any_of HT_.out (by kernel_rfl)) (fun _ _ _ h => h) (Or.inr ⟨by rfl, rfl⟩) ?_ ?_
          rotate_left
          · simp only [Act.put, List.setIfInBounds_toArray, List.set_cons_zero, List.set_cons_succ, i64_w, i32_w]
            rfl
          refine pure_ (i := 6) (N := some 29) (v := undef) (a' := ?_) #[true, true, true, true, true, true, true, false] rfl rfl (any_of HT_.out (by kernel_rfl)) (fun _ _ _ h => h) (Or.inr ⟨by rfl, rfl⟩) ?_ ?_
          rotate_left
          · simp only [Act.put, List.setIfInBounds_toArray, List.set_cons_zero, List.set_cons_succ, i64_w, i32_w]
            rfl
          refine pureP_ 7 (some 30) #[true, true, true, true, true, true, true, true] HT_ ?_
          refine done_ (done_of HT_.out (by kernel_rfl)) ?_
          try go_wp2
          go_meet
          case rel => exact ⟨_, (false), (by first | rfl | (simp; done) | (simp [*]; done)), H', ⟨by first | omega | exact Nat.le_refl _⟩, ⟨blkU_ BK205.out⟩, ⟨blkU_ BK206.out⟩, ⟨bel_⟩⟩
      case rest =>
        clear HC8
        (try clear c2); (try clear c5); (try clear c7); (try clear c7b0); (try clear c7b1); (try clear c14); (try clear c14b0); (try clear c14b1); (try clear hcz12_0); (try clear hcz12_1); (try clear hcz12_2); (try clear hcz12_3); (try clear hcz12_4); (try clear hcz13_0); (try clear hcz13_1); (try clear hcz13_2); (try clear hcz13_3); (try clear hcz13_4); (try clear hfz12_0); (try clear hfz12_1); (try clear hfz12_2); (try clear hfz12_3); (try clear hfz12_4); (try clear hfz13_0); (try clear hfz13_1); (try clear hfz13_2); (try clear hfz13_3); (try clear hfz13_4)
        obtain ⟨kq, x30_7, rfl, HA, HJ7, BK205, BK206, HB⟩ := hcut
        cases kq with
        | zero => exact absurd HA.out (by simp [spec_GrowthCheck.j0])
        | succ kj7 =>
          have H := HA.out
          clear HA
          simp only [spec_GrowthCheck.j0] at H
          by_cases c19 : x30_7 = true
          · subst c19
            rw [if_pos rfl] at H
            obtain rfl := Option.some.inj H
            go_wp2
            go_ret
            exact ⟨rfl_, bel_⟩
          · replace c19 := Bool.eq_false_iff.mpr c19
            subst c19
            rw [if_neg (show ¬ (false = true) by decide)] at H
            by_cases c20 : a0_0 = a1_0
            · rw [if_pos c20] at H
              have c20b0 : (a0_0 == a1_0) = true := beq_iff_eq.mpr c20
              have c20b1 : (a0_0 != a1_0) = false := bne_eq_false_iff_eq.mpr c20
              clear c20
              by_cases c21 : (!(a1_1 == a0_1) || (!(a1_2 == a0_2) || (!(a1_3 == a0_3) || (!(a1_4 == a0_4))))) = true
              · rw [if_pos c21] at H
                have c21b0 : (!(a1_1 == a0_1) || (!(a1_2 == a0_2) || (!(a1_3 == a0_3) || (!(a1_4 == a0_4))))) = true := c21
                clear c21
                obtain rfl := Option.some.inj H
                have hnb22 := NB206_205.out
                have hnc22 := NB205_206.out
                obtain ⟨hcz23_0, hcz23_1, hcz23_2, hcz23_3, hcz23_4, hfz23_0, hfz23_1, hfz23_2, hfz23_3, hfz23_4⟩ := cz5_ BK206.out
                obtain ⟨hcz24_0, hcz24_1, hcz24_2, hcz24_3, hcz24_4, hfz24_0, hfz24_1, hfz24_2, hfz24_3, hfz24_4⟩ := cz5_ BK205.out
                go_wp2
                go_ret
                exact ⟨rfl_, bel_⟩
              · rw [if_neg c21] at H
                have c21b0 : (!(a1_1 == a0_1) || (!(a1_2 == a0_2) || (!(a1_3 == a0_3) || (!(a1_4 == a0_4))))) = false := by simpa using c21
                clear c21
                obtain rfl := Option.some.inj H
                have hnb25 := NB206_205.out
                have hnc25 := NB205_206.out
                obtain ⟨hcz26_0, hcz26_1, hcz26_2, hcz26_3, hcz26_4, hfz26_0, hfz26_1, hfz26_2, hfz26_3, hfz26_4⟩ := cz5_ BK206.out
                obtain ⟨hcz27_0, hcz27_1, hcz27_2, hcz27_3, hcz27_4, hfz27_0, hfz27_1, hfz27_2, hfz27_3, hfz27_4⟩ := cz5_ BK205.out
                go_wp2
                go_ret
                exact ⟨rfl_, bel_⟩
            · rw [if_neg c20] at H
              have c20b0 : (a0_0 == a1_0) = false := beq_eq_false_iff_ne.mpr c20
              have c20b1 : (a0_0 != a1_0) = true := bne_iff_ne.mpr c20
              by_cases c28 : a0_0 = 0
              · rw [if_pos c28] at H
                have c28b0 : (a0_0 == 0) = true := beq_iff_eq.mpr c28
                have c28b1 : (a0_0 != 0) = false := bne_eq_false_iff_eq.mpr c28
                clear c28
                obtain rfl := Option.some.inj H
                go_wp2
                go_ret
                exact ⟨rfl_, bel_⟩
              · rw [if_neg c28] at H
                have c28b0 : (a0_0 == 0) = false := beq_eq_false_iff_ne.mpr c28
                have c28b1 : (a0_0 != 0) = true := bne_iff_ne.mpr c28
                obtain ⟨t213, A29, H⟩ := bnd_ H
                by_cases c30 : 0 ≤ t213
                · rw [if_pos c30] at H
                  have c30b0 := eq_true c30
                  have c30b1 : decide (0 ≤ t213) = true := decide_eq_true c30
                  clear c30
                  by_cases c31 : t213 ≤ (l2.length : Int)
                  · rw [if_pos c31] at H
                    have c31b0 := eq_true c31
                    have c31b1 : decide (t213 ≤ (l2.length : Int)) = true := decide_eq_true c31
                    clear c31
                    obtain ⟨y214, hy214⟩ : ∃ y_ : List (S29), y_ = (l2.take (t213 : Int).toNat) := ⟨_, rfl⟩
                    replace H : ((spec_PeaksRoot.f kj7 y214).bind fun bt218 => (if (!(bt218.1 == a0_1) || (!(bt218.2.1 == a0_2) || (!(bt218.2.2.1 == a0_3) || (!(bt218.2.2.2 == a0_4))))) = true then (some 3) else ((spec_l3Node.f kj7 0 a1_0 a0_0 a1_0 l2).bind fun bt222 => (if (!(bt222.1 == a1_1) || (!(bt222.2.1 == a1_2) || (!(bt222.2.2.1 == a1_3) || (!(bt222.2.2.2 == a1_4))))) = true then (some 4) else (some 0))))) = some r := by first | (rw [hy214]; with_reducible exact H) | (have H2_ := (Option.bind_some _ _).symm.trans H; rw [hy214]; with_reducible exact H2_) | (have H2_ := (Option.bind_some _ _).symm.trans H; with_reducible exact H2_) | with_reducible exact H | (rw [hy214]; exact H) | exact H
                    have Ny214 := Aside0.mk hy214
                    clear hy214
                    obtain ⟨⟨t218, t219, t220, t221⟩, A32, H⟩ := bnd_ H
                    dsimp only at H
                    by_cases c33 : (!(t218 == a0_1) || (!(t219 == a0_2) || (!(t220 == a0_3) || (!(t221 == a0_4))))) = true
                    · rw [if_pos c33] at H
                      have c33b0 : (!(t218 == a0_1) || (!(t219 == a0_2) || (!(t220 == a0_3) || (!(t221 == a0_4))))) = true := c33
                      clear c33
                      obtain rfl := Option.some.inj H
                      try go_wp2
                      replace BK205 := Aside0.mk (blk_drew BK205.out)
                      replace BK206 := Aside0.mk (blk_drew BK206.out)
                      replace HB := Aside0.mk (below_drew1 HB.out)
                      refine start_ (n := 8) (S := fun w' => w'.cell? ⟨gb205, 0, none⟩ = some (.int .i64 a0_0) ∧ w'.cell? ⟨gb205, 1, none⟩ = some (.int .u64 a0_1) ∧ w'.cell? ⟨gb205, 2, none⟩ = some (.int .u64 a0_2) ∧ w'.cell? ⟨gb205, 3, none⟩ = some (.int .u64 a0_3) ∧ w'.cell? ⟨gb205, 4, none⟩ = some (.int .u64 a0_4)) (ds := []) #[false, false, false, false, false, false, false, false] (by kernel_rfl) rfl rfl ⟨(blk_cell BK205.out 0).trans rfl, (blk_cell BK205.out 1).trans rfl, (blk_cell BK205.out 2).trans rfl, (blk_cell BK205.out 3).trans rfl, (blk_cell BK205.out 4).trans rfl⟩ (fun hHeld => ?_); refine with_tabW spec_GrowthCheck.tab15 spec_GrowthCheck.bits15 (fun HT_ HW_ => ?_)
                      generalize wc.drew = w34 at BK205 BK206 HB hHeld ⊢
                      refine pureP_ 0 (some 41) #[true, false, false, false, false, false, false, false] HT_ ?_
                      refine pureP_ 1 (some 42) #[true, true, false, false, false, false, false, false] HT_ ?_
                      refine pureP_ 5 (some 46) #[true, true, false, false, false, true, false, false] HT_ ?_
                      refine takeP_ 6 (some 47) #[true, true, false, false, false, true, true, false] HT_ HW_ hHeld ?_
                      refine oneP_ 2 (some 43) #[true, true, true, false, false, true, true, false] HT_ (fun K hK => ?_)
                      refine goN_ Try.func50 #[.int .i64 a0_0] ?_
                      with_reducible refine (spec_PeaksCount.calls kj7 a0_0 t213 _ A29.out).mono ?_
                      rintro e w' ⟨rfl, ⟨nd, rfl⟩⟩
                      refine ⟨_, rfl, ?_⟩
                      have q35 : (t213 : Int) ≤ ((l2.length : Int) : Int) := ofd_
                      obtain ⟨i035, hi035, _, hsz35, _⟩ := info_parts info29
                      have hroom35 : l2.length ≤ c2 := HC2.out
                      have hC35 : Kd.C k29 _ A2 l2.length l2 := HR2.out
                      have hcut35 := cut_to (P := Try.prog) 49 29 .i64 Try.underlying49 hi035 A2 l2.length c2 t213 (ofd_) q35 hroom35
                      have hr35 := Kd.C_take (m := (t213 : Int).toNat) hC35 (by omega)
                      have hy35 : y214.length = (t213 : Int).toNat := (by rw [Ny214.out, List.length_take]; omega)
                      rw [← Ny214.out] at hr35
                      rw [← hy35] at hcut35
                      have HR217 := Aside0.mk hr35
                      have HC217 := Aside0.mk (show y214.length ≤ c2 from by omega)
                      clear hr35 hC35 hroom35 hi035 hsz35
                      have KY35 := Aside0.mk hy35
                      clear hy35
                      replace q35 := eq_true q35
                      refine hK.out _ _ ⟨(blk_cell BK205.out 0).trans rfl, (blk_cell BK205.out 1).trans rfl, (blk_cell BK205.out 2).trans rfl, (blk_cell BK205.out 3).trans rfl, (blk_cell BK205.out 4).trans rfl⟩ (fun hHeld => ?_)
                      clear hK K
                      refine norm_ (a' := ?_) ?_ ?_
                      rotate_left
                      · show Act.put _ (some 43) _ = _
                        simp only [Act.put, List.setIfInBounds_toArray, List.set_cons_zero, List.set_cons_succ, i64_w, i32_w]
                        rfl
                      refine pureP_ 3 (some 44) #[true, true, true, true, false, true, true, false] HT_ ?_
                      refine oneP_ 4 (some 45) #[true, true, true, true, true, true, true, false] HT_ (fun K hK => ?_)
                      refine goN_ Try.func73 #[.slice A2 y214.length c2] ?_
                      with_reducible refine (spec_PeaksRoot.calls kj7 _ _ y214 t218 t219 t220 t221 _ ?side1 ?side2 A32.out).mono ?_
                      (case side1 => repeat (first | exact (Kd.C_below HR217.out bel_) | (with_reducible refine Kd.C_alloc ?_ _) | (with_reducible refine Kd.C_drewN ?_ _) | (with_reducible refine Kd.C_drew ?_)))
                      (case side2 => exact HC217.out)
                      rintro e w36 ⟨rfl, hb⟩
                      refine ⟨_, rfl, ?_⟩
                      replace BK205 := blkBel_ BK205.out hb
                      replace BK206 := blkBel_ BK206.out hb
                      replace HB := stepB_ hb
                      (try clear hb)
                      refine hK.out _ _ ⟨(blk_cell BK205.out 0).trans rfl, (blk_cell BK205.out 1).trans rfl, (blk_cell BK205.out 2).trans rfl, (blk_cell BK205.out 3).trans rfl, (blk_cell BK205.out 4).trans rfl⟩ (fun hHeld => ?_)
                      clear hK K
                      refine norm_ (a' := ?_) ?_ ?_
                      rotate_left
                      · show Act.put _ (some 45) _ = _
                        simp only [Act.put, List.setIfInBounds_toArray, List.set_cons_zero, List.set_cons_succ, i64_w, i32_w]
                        rfl
                      refine pureP_ 7 (some 48) #[true, true, true, true, true, true, true, true] HT_ ?_
                      refine done_ (done_of HT_.out (by kernel_rfl)) ?_
                      try go_wp2
                      go_ret
                      exact ⟨rfl_, bel_⟩
                    · rw [if_neg c33] at H
                      have c33b0 : (!(t218 == a0_1) || (!(t219 == a0_2) || (!(t220 == a0_3) || (!(t221 == a0_4))))) = false := by simpa using c33
                      clear c33
                      obtain ⟨⟨t222, t223, t224, t225⟩, A37, H⟩ := bnd_ H
                      dsimp only at H
                      by_cases c38 : (!(t222 == a1_1) || (!(t223 == a1_2) || (!(t224 == a1_3) || (!(t225 == a1_4))))) = true
                      · rw [if_pos c38] at H
                        have c38b0 : (!(t222 == a1_1) || (!(t223 == a1_2) || (!(t224 == a1_3) || (!(t225 == a1_4))))) = true := c38
                        clear c38
                        obtain rfl := Option.some.inj H
                        try go_wp2
                        replace BK205 := Aside0.mk (blk_drew BK205.out)
                        replace BK206 := Aside0.mk (blk_drew BK206.out)
                        replace HB := Aside0.mk (below_drew1 HB.out)
                        refine start_ (n := 8) (S := fun w' => w'.cell? ⟨gb205, 0, none⟩ = some (.int .i64 a0_0) ∧ w'.cell? ⟨gb205, 1, none⟩ = some (.int .u64 a0_1) ∧ w'.cell? ⟨gb205, 2, none⟩ = some (.int .u64 a0_2) ∧ w'.cell? ⟨gb205, 3, none⟩ = some (.int .u64 a0_3) ∧ w'.cell? ⟨gb205, 4, none⟩ = some (.int .u64 a0_4)) (ds := []) #[false, false, false, false, false, false, false, false] (by kernel_rfl) rfl rfl ⟨(blk_cell BK205.out 0).trans rfl, (blk_cell BK205.out 1).trans rfl, (blk_cell BK205.out 2).trans rfl, (blk_cell BK205.out 3).trans rfl, (blk_cell BK205.out 4).trans rfl⟩ (fun hHeld => ?_); refine with_tabW spec_GrowthCheck.tab15 spec_GrowthCheck.bits15 (fun HT_ HW_ => ?_)
                        generalize wc.drew = w39 at BK205 BK206 HB hHeld ⊢
                        refine pureP_ 0 (some 41) #[true, false, false, false, false, false, false, false] HT_ ?_
                        refine pureP_ 1 (some 42) #[true, true, false, false, false, false, false, false] HT_ ?_
                        refine pureP_ 5 (some 46) #[true, true, false, false, false, true, false, false] HT_ ?_
                        refine takeP_ 6 (some 47) #[true, true, false, false, false, true, true, false] HT_ HW_ hHeld ?_
                        refine oneP_ 2 (some 43) #[true, true, true, false, false, true, true, false] HT_ (fun K hK => ?_)
                        refine goN_ Try.func50 #[.int .i64 a0_0] ?_
                        with_reducible refine (spec_PeaksCount.calls kj7 a0_0 t213 _ A29.out).mono ?_
                        rintro e w' ⟨rfl, ⟨nd, rfl⟩⟩
                        refine ⟨_, rfl, ?_⟩
                        have q40 : (t213 : Int) ≤ ((l2.length : Int) : Int) := ofd_
                        obtain ⟨i040, hi040, _, hsz40, _⟩ := info_parts info29
                        have hroom40 : l2.length ≤ c2 := HC2.out
                        have hC40 : Kd.C k29 _ A2 l2.length l2 := HR2.out
                        have hcut40 := cut_to (P := Try.prog) 49 29 .i64 Try.underlying49 hi040 A2 l2.length c2 t213 (ofd_) q40 hroom40
                        have hr40 := Kd.C_take (m := (t213 : Int).toNat) hC40 (by omega)
                        have hy40 : y214.length = (t213 : Int).toNat := (by rw [Ny214.out, List.length_take]; omega)
                        rw [← Ny214.out] at hr40
                        rw [← hy40] at hcut40
                        have HR217 := Aside0.mk hr40
                        have HC217 := Aside0.mk (show y214.length ≤ c2 from by omega)
                        clear hr40 hC40 hroom40 hi040 hsz40
                        have KY40 := Aside0.mk hy40
                        clear hy40
                        replace q40 := eq_true q40
                        refine hK.out _ _ ⟨(blk_cell BK205.out 0).trans rfl, (blk_cell BK205.out 1).trans rfl, (blk_cell BK205.out 2).trans rfl, (blk_cell BK205.out 3).trans rfl, (blk_cell BK205.out 4).trans rfl⟩ (fun hHeld => ?_)
                        clear hK K
                        refine norm_ (a' := ?_) ?_ ?_
                        rotate_left
                        · show Act.put _ (some 43) _ = _
                          simp only [Act.put, List.setIfInBounds_toArray, List.set_cons_zero, List.set_cons_succ, i64_w, i32_w]
                          rfl
                        refine pureP_ 3 (some 44) #[true, true, true, true, false, true, true, false] HT_ ?_
                        refine oneP_ 4 (some 45) #[true, true, true, true, true, true, true, false] HT_ (fun K hK => ?_)
                        refine goN_ Try.func73 #[.slice A2 y214.length c2] ?_
                        with_reducible refine (spec_PeaksRoot.calls kj7 _ _ y214 t218 t219 t220 t221 _ ?side1 ?side2 A32.out).mono ?_
                        (case side1 => repeat (first | exact (Kd.C_below HR217.out bel_) | (with_reducible refine Kd.C_alloc ?_ _) | (with_reducible refine Kd.C_drewN ?_ _) | (with_reducible refine Kd.C_drew ?_)))
                        (case side2 => exact HC217.out)
                        rintro e w41 ⟨rfl, hb⟩
                        refine ⟨_, rfl, ?_⟩
                        replace BK205 := blkBel_ BK205.out hb
                        replace BK206 := blkBel_ BK206.out hb
                        replace HB := stepB_ hb
                        (try clear hb)
                        refine hK.out _ _ ⟨(blk_cell BK205.out 0).trans rfl, (blk_cell BK205.out 1).trans rfl, (blk_cell BK205.out 2).trans rfl, (blk_cell BK205.out 3).trans rfl, (blk_cell BK205.out 4).trans rfl⟩ (fun hHeld => ?_)
                        clear hK K
                        refine norm_ (a' := ?_) ?_ ?_
                        rotate_left
                        · show Act.put _ (some 45) _ = _
                          simp only [Act.put, List.setIfInBounds_toArray, List.set_cons_zero, List.set_cons_succ, i64_w, i32_w]
                          rfl
                        refine pureP_ 7 (some 48) #[true, true, true, true, true, true, true, true] HT_ ?_
                        refine done_ (done_of HT_.out (by kernel_rfl)) ?_
                        try go_wp2
                        replace BK205 := Aside0.mk (blk_drew BK205.out)
                        replace BK206 := Aside0.mk (blk_drew BK206.out)
                        replace HB := Aside0.mk (below_drew1 HB.out)
                        refine start_ (n := 8) (S := fun w' => w'.cell? ⟨gb206, 0, none⟩ = some (.int .i64 a1_0) ∧ w'.cell? ⟨gb206, 1, none⟩ = some (.int .u64 a1_1) ∧ w'.cell? ⟨gb206, 2, none⟩ = some (.int .u64 a1_2) ∧ w'.cell? ⟨gb206, 3, none⟩ = some (.int .u64 a1_3) ∧ w'.cell? ⟨gb206, 4, none⟩ = some (.int .u64 a1_4)) (ds := []) #[false, false, false, false, false, false, false, false] (by kernel_rfl) rfl rfl ⟨(blk_cell BK206.out 0).trans rfl, (blk_cell BK206.out 1).trans rfl, (blk_cell BK206.out 2).trans rfl, (blk_cell BK206.out 3).trans rfl, (blk_cell BK206.out 4).trans rfl⟩ (fun hHeld => ?_); refine with_tabW spec_GrowthCheck.tab17 spec_GrowthCheck.bits17 (fun HT_ HW_ => ?_)
                        generalize w41.drew = w42 at BK205 BK206 HB hHeld ⊢
                        refine pureP_ 0 (some 49) #[true, false, false, false, false, false, false, false] HT_ ?_
                        refine pureP_ 1 (some 50) #[true, true, false, false, false, false, false, false] HT_ ?_
                        refine pureP_ 2 (some 51) #[true, true, true, false, false, false, false, false] HT_ ?_
                        refine pureP_ 3 (some 52) #[true, true, true, true, false, false, false, false] HT_ ?_
                        refine pureP_ 5 (some 54) #[true, true, true, true, false, true, false, false] HT_ ?_
                        refine takeP_ 6 (some 55) #[true, true, true, true, false, true, true, false] HT_ HW_ hHeld ?_
                        refine oneP_ 4 (some 53) #[true, true, true, true, true, true, true, false] HT_ (fun K hK => ?_)
                        refine goN_ Try.func74 #[.int .i64 0, .int .i64 a1_0, .int .i64 a0_0, .int .i64 a1_0, .slice A2 l2.length c2] ?_
                        with_reducible refine (spec_l3Node.calls kj7 0 a1_0 a0_0 a1_0 _ _ l2 t222 t223 t224 t225 _ ?side1 ?side2 A37.out).mono ?_
                        (case side1 => repeat (first | exact (Kd.C_below HR2.out HB.out) | (with_reducible refine Kd.C_alloc ?_ _) | (with_reducible refine Kd.C_drewN ?_ _) | (with_reducible refine Kd.C_drew ?_)))
                        (case side2 => exact HC2.out)
                        rintro e w43 ⟨rfl, hb⟩
                        refine ⟨_, rfl, ?_⟩
                        replace BK205 := blkBel_ BK205.out hb
                        replace BK206 := blkBel_ BK206.out hb
                        replace HB := stepB_ hb
                        (try clear hb)
                        refine hK.out _ _ ⟨(blk_cell BK206.out 0).trans rfl, (blk_cell BK206.out 1).trans rfl, (blk_cell BK206.out 2).trans rfl, (blk_cell BK206.out 3).trans rfl, (blk_cell BK206.out 4).trans rfl⟩ (fun hHeld => ?_)
                        clear hK K
                        refine norm_ (a' := ?_) ?_ ?_
                        rotate_left
                        · show Act.put _ (some 53) _ = _
                          simp only [Act.put, List.setIfInBounds_toArray, List.set_cons_zero, List.set_cons_succ, i64_w, i32_w]
                          rfl
                        refine pureP_ 7 (some 56) #[true, true, true, true, true, true, true, true] HT_ ?_
                        refine done_ (done_of HT_.out (by kernel_rfl)) ?_
                        try go_wp2
                        go_ret
                        exact ⟨rfl_, bel_⟩
                      · rw [if_neg c38] at H
                        have c38b0 : (!(t222 == a1_1) || (!(t223 == a1_2) || (!(t224 == a1_3) || (!(t225 == a1_4))))) = false := by simpa using c38
                        clear c38
                        obtain rfl := Option.some.inj H
                        try go_wp2
                        replace BK205 := Aside0.mk (blk_drew BK205.out)
                        replace BK206 := Aside0.mk (blk_drew BK206.out)
                        replace HB := Aside0.mk (below_drew1 HB.out)
                        refine start_ (n := 8) (S := fun w' => w'.cell? ⟨gb205, 0, none⟩ = some (.int .i64 a0_0) ∧ w'.cell? ⟨gb205, 1, none⟩ = some (.int .u64 a0_1) ∧ w'.cell? ⟨gb205, 2, none⟩ = some (.int .u64 a0_2) ∧ w'.cell? ⟨gb205, 3, none⟩ = some (.int .u64 a0_3) ∧ w'.cell? ⟨gb205, 4, none⟩ = some (.int .u64 a0_4)) (ds := []) #[false, false, false, false, false, false, false, false] (by kernel_rfl) rfl rfl ⟨(blk_cell BK205.out 0).trans rfl, (blk_cell BK205.out 1).trans rfl, (blk_cell BK205.out 2).trans rfl, (blk_cell BK205.out 3).trans rfl, (blk_cell BK205.out 4).trans rfl⟩ (fun hHeld => ?_); refine with_tabW spec_GrowthCheck.tab15 spec_GrowthCheck.bits15 (fun HT_ HW_ => ?_)
                        generalize wc.drew = w44 at BK205 BK206 HB hHeld ⊢
                        refine pureP_ 0 (some 41) #[true, false, false, false, false, false, false, false] HT_ ?_
                        refine pureP_ 1 (some 42) #[true, true, false, false, false, false, false, false] HT_ ?_
                        refine pureP_ 5 (some 46) #[true, true, false, false, false, true, false, false] HT_ ?_
                        refine takeP_ 6 (some 47) #[true, true, false, false, false, true, true, false] HT_ HW_ hHeld ?_
                        refine oneP_ 2 (some 43) #[true, true, true, false, false, true, true, false] HT_ (fun K hK => ?_)
                        refine goN_ Try.func50 #[.int .i64 a0_0] ?_
                        with_reducible refine (spec_PeaksCount.calls kj7 a0_0 t213 _ A29.out).mono ?_
                        rintro e w' ⟨rfl, ⟨nd, rfl⟩⟩
                        refine ⟨_, rfl, ?_⟩
                        have q45 : (t213 : Int) ≤ ((l2.length : Int) : Int) := ofd_
                        obtain ⟨i045, hi045, _, hsz45, _⟩ := info_parts info29
                        have hroom45 : l2.length ≤ c2 := HC2.out
                        have hC45 : Kd.C k29 _ A2 l2.length l2 := HR2.out
                        have hcut45 := cut_to (P := Try.prog) 49 29 .i64 Try.underlying49 hi045 A2 l2.length c2 t213 (ofd_) q45 hroom45
                        have hr45 := Kd.C_take (m := (t213 : Int).toNat) hC45 (by omega)
                        have hy45 : y214.length = (t213 : Int).toNat := (by rw [Ny214.out, List.length_take]; omega)
                        rw [← Ny214.out] at hr45
                        rw [← hy45] at hcut45
                        have HR217 := Aside0.mk hr45
                        have HC217 := Aside0.mk (show y214.length ≤ c2 from by omega)
                        clear hr45 hC45 hroom45 hi045 hsz45
                        have KY45 := Aside0.mk hy45
                        clear hy45
                        replace q45 := eq_true q45
                        refine hK.out _ _ ⟨(blk_cell BK205.out 0).trans rfl, (blk_cell BK205.out 1).trans rfl, (blk_cell BK205.out 2).trans rfl, (blk_cell BK205.out 3).trans rfl, (blk_cell BK205.out 4).trans rfl⟩ (fun hHeld => ?_)
                        clear hK K
                        refine norm_ (a' := ?_) ?_ ?_
                        rotate_left
                        · show Act.put _ (some 43) _ = _
                          simp only [Act.put, List.setIfInBounds_toArray, List.set_cons_zero, List.set_cons_succ, i64_w, i32_w]
                          rfl
                        refine pureP_ 3 (some 44) #[true, true, true, true, false, true, true, false] HT_ ?_
                        refine oneP_ 4 (some 45) #[true, true, true, true, true, true, true, false] HT_ (fun K hK => ?_)
                        refine goN_ Try.func73 #[.slice A2 y214.length c2] ?_
                        with_reducible refine (spec_PeaksRoot.calls kj7 _ _ y214 t218 t219 t220 t221 _ ?side1 ?side2 A32.out).mono ?_
                        (case side1 => repeat (first | exact (Kd.C_below HR217.out bel_) | (with_reducible refine Kd.C_alloc ?_ _) | (with_reducible refine Kd.C_drewN ?_ _) | (with_reducible refine Kd.C_drew ?_)))
                        (case side2 => exact HC217.out)
                        rintro e w46 ⟨rfl, hb⟩
                        refine ⟨_, rfl, ?_⟩
                        replace BK205 := blkBel_ BK205.out hb
                        replace BK206 := blkBel_ BK206.out hb
                        replace HB := stepB_ hb
                        (try clear hb)
                        refine hK.out _ _ ⟨(blk_cell BK205.out 0).trans rfl, (blk_cell BK205.out 1).trans rfl, (blk_cell BK205.out 2).trans rfl, (blk_cell BK205.out 3).trans rfl, (blk_cell BK205.out 4).trans rfl⟩ (fun hHeld => ?_)
                        clear hK K
                        refine norm_ (a' := ?_) ?_ ?_
                        rotate_left
                        · show Act.put _ (some 45) _ = _
                          simp only [Act.put, List.setIfInBounds_toArray, List.set_cons_zero, List.set_cons_succ, i64_w, i32_w]
                          rfl
                        refine pureP_ 7 (some 48) #[true, true, true, true, true, true, true, true] HT_ ?_
                        refine done_ (done_of HT_.out (by kernel_rfl)) ?_
                        try go_wp2
                        replace BK205 := Aside0.mk (blk_drew BK205.out)
                        replace BK206 := Aside0.mk (blk_drew BK206.out)
                        replace HB := Aside0.mk (below_drew1 HB.out)
                        refine start_ (n := 8) (S := fun w' => w'.cell? ⟨gb206, 0, none⟩ = some (.int .i64 a1_0) ∧ w'.cell? ⟨gb206, 1, none⟩ = some (.int .u64 a1_1) ∧ w'.cell? ⟨gb206, 2, none⟩ = some (.int .u64 a1_2) ∧ w'.cell? ⟨gb206, 3, none⟩ = some (.int .u64 a1_3) ∧ w'.cell? ⟨gb206, 4, none⟩ = some (.int .u64 a1_4)) (ds := []) #[false, false, false, false, false, false, false, false] (by kernel_rfl) rfl rfl ⟨(blk_cell BK206.out 0).trans rfl, (blk_cell BK206.out 1).trans rfl, (blk_cell BK206.out 2).trans rfl, (blk_cell BK206.out 3).trans rfl, (blk_cell BK206.out 4).trans rfl⟩ (fun hHeld => ?_); refine with_tabW spec_GrowthCheck.tab17 spec_GrowthCheck.bits17 (fun HT_ HW_ => ?_)
                        generalize w46.drew = w47 at BK205 BK206 HB hHeld ⊢
                        refine pureP_ 0 (some 49) #[true, false, false, false, false, false, false, false] HT_ ?_
                        refine pureP_ 1 (some 50) #[true, true, false, false, false, false, false, false] HT_ ?_
                        refine pureP_ 2 (some 51) #[true, true, true, false, false, false, false, false] HT_ ?_
                        refine pureP_ 3 (some 52) #[true, true, true, true, false, false, false, false] HT_ ?_
                        refine pureP_ 5 (some 54) #[true, true, true, true, false, true, false, false] HT_ ?_
                        refine takeP_ 6 (some 55) #[true, true, true, true, false, true, true, false] HT_ HW_ hHeld ?_
                        refine oneP_ 4 (some 53) #[true, true, true, true, true, true, true, false] HT_ (fun K hK => ?_)
                        refine goN_ Try.func74 #[.int .i64 0, .int .i64 a1_0, .int .i64 a0_0, .int .i64 a1_0, .slice A2 l2.length c2] ?_
                        with_reducible refine (spec_l3Node.calls kj7 0 a1_0 a0_0 a1_0 _ _ l2 t222 t223 t224 t225 _ ?side1 ?side2 A37.out).mono ?_
                        (case side1 => repeat (first | exact (Kd.C_below HR2.out HB.out) | (with_reducible refine Kd.C_alloc ?_ _) | (with_reducible refine Kd.C_drewN ?_ _) | (with_reducible refine Kd.C_drew ?_)))
                        (case side2 => exact HC2.out)
                        rintro e w48 ⟨rfl, hb⟩
                        refine ⟨_, rfl, ?_⟩
                        replace BK205 := blkBel_ BK205.out hb
                        replace BK206 := blkBel_ BK206.out hb
                        replace HB := stepB_ hb
                        (try clear hb)
                        refine hK.out _ _ ⟨(blk_cell BK206.out 0).trans rfl, (blk_cell BK206.out 1).trans rfl, (blk_cell BK206.out 2).trans rfl, (blk_cell BK206.out 3).trans rfl, (blk_cell BK206.out 4).trans rfl⟩ (fun hHeld => ?_)
                        clear hK K
                        refine norm_ (a' := ?_) ?_ ?_
                        rotate_left
                        · show Act.put _ (some 53) _ = _
                          simp only [Act.put, List.setIfInBounds_toArray, List.set_cons_zero, List.set_cons_succ, i64_w, i32_w]
                          rfl
                        refine pureP_ 7 (some 56) #[true, true, true, true, true, true, true, true] HT_ ?_
                        refine done_ (done_of HT_.out (by kernel_rfl)) ?_
                        try go_wp2
                        go_ret
                        exact ⟨rfl_, bel_⟩
                  · rw [if_neg c31] at H
                    exact absurd H (by simp)
                · rw [if_neg c30] at H
                  exact absurd H (by simp)
    · rw [if_neg c7] at H
      have c7b0 : ((l2.length : Int) == t208) = false := beq_eq_false_iff_ne.mpr c7
      have c7b1 : ((l2.length : Int) != t208) = true := bne_iff_ne.mpr c7
      obtain rfl := Option.some.inj H
      go_enter Try.func35, Try.ntmps35
      go_wp2_with (first | ((with_reducible refine gate_dst (N := 3) rfl ?_); refine boxE_ (cs := #[.int .i64 a0_0, .int .u64 a0_1, .int .u64 a0_2, .int .u64 a0_3, .int .u64 a0_4]) (t := 31) ?_; intro gb205 hg w49 hbox hb; have BK205 := Aside0.mk (hbox); have GW205 := sizeB_ hg; have GE205 := sizeB_ hg; replace HB := stepB_ hb; clear hb hbox hg) | ((with_reducible refine gate_dst (N := 4) rfl ?_); refine boxE_ (cs := #[.int .i64 a1_0, .int .u64 a1_1, .int .u64 a1_2, .int .u64 a1_3, .int .u64 a1_4]) (t := 31) ?_; intro gb206 hg w50 hbox hb; have BK206 := Aside0.mk (hbox); have GW206 := sizeB_ hg; have GE206 := sizeB_ hg; replace HB := stepB_ hb; have NB205_206 := neL_ BK205.out hg; have NB206_205 := neG_ BK205.out hg; replace BK205 := blkBel_ BK205.out hb; clear hb hbox hg; have hnb51 := NB205_206.out; have hnc51 := NB206_205.out; obtain ⟨hcz52_0, hcz52_1, hcz52_2, hcz52_3, hcz52_4, hfz52_0, hfz52_1, hfz52_2, hfz52_3, hfz52_4⟩ := cz5_ BK205.out; obtain ⟨hcz53_0, hcz53_1, hcz53_2, hcz53_3, hcz53_4, hfz53_0, hfz53_1, hfz53_2, hfz53_3, hfz53_4⟩ := cz5_ BK206.out) | ((with_reducible refine gate_callee (f := 66) rfl ?_); refine goL_ (some 15) Try.func66 #[.int .i64 a0_0, .int .i64 a1_0] ?_; (with_reducible refine (spec_l3Sizes.calls a0_0 a1_0 true _ A4.out).mono ?_); rintro e w' ⟨rfl, ⟨nd, rfl⟩⟩; refine ⟨_, rfl, ?_⟩) | ((with_reducible refine gate_callee (f := 32) rfl ?_); refine goL_ (some 21) Try.func32 #[.int .i64 a0_0, .int .i64 a1_0] ?_; (with_reducible refine (spec_GrowthLen.calls k a0_0 a1_0 t208 _ A6.out).mono ?_); rintro e w' ⟨rfl, ⟨nd, rfl⟩⟩; refine ⟨_, rfl, ?_⟩))
      go_ret
      exact ⟨rfl_, bel_⟩
  · replace c5 := Bool.eq_false_iff.mpr c5
    subst c5
    rw [if_neg (show ¬ (false = true) by decide)] at H
    obtain rfl := Option.some.inj H
    go_enter Try.func35, Try.ntmps35
    go_wp2_with (first | ((with_reducible refine gate_dst (N := 3) rfl ?_); refine boxE_ (cs := #[.int .i64 a0_0, .int .u64 a0_1, .int .u64 a0_2, .int .u64 a0_3, .int .u64 a0_4]) (t := 31) ?_; intro gb205 hg w54 hbox hb; have BK205 := Aside0.mk (hbox); have GW205 := sizeB_ hg; have GE205 := sizeB_ hg; replace HB := stepB_ hb; clear hb hbox hg) | ((with_reducible refine gate_dst (N := 4) rfl ?_); refine boxE_ (cs := #[.int .i64 a1_0, .int .u64 a1_1, .int .u64 a1_2, .int .u64 a1_3, .int .u64 a1_4]) (t := 31) ?_; intro gb206 hg w55 hbox hb; have BK206 := Aside0.mk (hbox); have GW206 := sizeB_ hg; have GE206 := sizeB_ hg; replace HB := stepB_ hb; have NB205_206 := neL_ BK205.out hg; have NB206_205 := neG_ BK205.out hg; replace BK205 := blkBel_ BK205.out hb; clear hb hbox hg; have hnb56 := NB205_206.out; have hnc56 := NB206_205.out; obtain ⟨hcz57_0, hcz57_1, hcz57_2, hcz57_3, hcz57_4, hfz57_0, hfz57_1, hfz57_2, hfz57_3, hfz57_4⟩ := cz5_ BK205.out; obtain ⟨hcz58_0, hcz58_1, hcz58_2, hcz58_3, hcz58_4, hfz58_0, hfz58_1, hfz58_2, hfz58_3, hfz58_4⟩ := cz5_ BK206.out) | ((with_reducible refine gate_callee (f := 66) rfl ?_); refine goL_ (some 15) Try.func66 #[.int .i64 a0_0, .int .i64 a1_0] ?_; (with_reducible refine (spec_l3Sizes.calls a0_0 a1_0 false _ A4.out).mono ?_); rintro e w' ⟨rfl, ⟨nd, rfl⟩⟩; refine ⟨_, rfl, ?_⟩))
    go_ret
    exact ⟨rfl_, bel_⟩
end
end Go.Proofs.Ytflckegggopdnaa.B
