/- What the Go functions loop.example/belfry/impl.HashBytes, loop.example/belfry/impl.pairText, loop.example/belfry/impl.HashPair, loop.example/belfry/impl.leafText, loop.example/belfry/impl.HashLeaf do is what the Lean functions .f of their names here say; condition: .f gives an answer. (Written by the session's program pp.py over the kit's print; Lean checks it.) -/
import Derived.Test.YtflckegggopdnaaZCEK
import Derived.Test.YtflckegggopdnaaZCEM
import Derived.Test.YtflckegggopdnaaZCEGImplHash1
import Derived.Test.YtflckegggopdnaaZCEGStd1
namespace Go.Proofs.Ytflckegggopdnaa.B
open Go.RowKit Go.Proofs.YtflckegggopdnaaW.PrintWords Go.Proofs.YtflckegggopdnaaW.PrintLast Go.Proofs.YtflckegggopdnaaW.PrintMore
attribute [local go_sem] max2_int min2_int max_two min_two max_three min_three max_four min_four
set_option linter.unusedVariables false
set_option linter.unusedSimpArgs false
section
def impl_HashBytes.l0 : Nat → List Int → List Int → Int → Int → Option (ByteArray)
  | 0, _, _, _, _ => none
  | k + 1, x3, x14, x15, x16 => if x16 < x15 then (if 0 ≤ x16 then (if x16 < (x14.length : Int) then ((binary_bigEndian_AppendUint64.f x3 (rd x14 x16)).bind fun t385 => (impl_HashBytes.l0 k t385 x14 x15 (wrap64 (x16 + 1)))) else (none)) else (none)) else (some (strOfNums x3))
def impl_HashBytes.f (k : Nat) (a0_0 : Int) (a0_1 : Int) (a0_2 : Int) (a0_3 : Int) : Option (ByteArray) := (some (([a0_0, a0_1, a0_2, a0_3] : List Int) : List Int)).bind fun y381 => (impl_HashBytes.l0 k ([] : List Int) y381 (y381.length : Int) 0)
set_option maxHeartbeats 8000000 in
set_option maxRecDepth 100000 in
theorem impl_HashBytes.calls (k : Nat) (a0_0 : Int) (a0_1 : Int) (a0_2 : Int) (a0_3 : Int) (r : ByteArray) (w : World) (h : impl_HashBytes.f k a0_0 a0_1 a0_2 a0_3 = some r) :
    Calls Try.prog 123 #[.agg #[.int .u64 a0_0, .int .u64 a0_1, .int .u64 a0_2, .int .u64 a0_3]] w fun e w' => e = .returned (.string r) ∧ Below w.heap.size w w' := by
  have hu29 := Try.underlying29
  have hu141 := Try.underlying141
  have HB := Aside0.mk (Below.refl w.heap.size w)
  have H : ((some (([a0_0, a0_1, a0_2, a0_3] : List Int) : List Int)).bind fun y381 => (impl_HashBytes.l0 k ([] : List Int) y381 (y381.length : Int) 0)) = some r := h
  clear h
  obtain ⟨y381, hy381⟩ : ∃ y_ : List Int, y_ = (([a0_0, a0_1, a0_2, a0_3] : List Int)) := ⟨_, rfl⟩
  replace H : (impl_HashBytes.l0 k ([] : List Int) y381 (y381.length : Int) 0) = some r := by first | (rw [hy381]; with_reducible exact H) | (have H2_ := (Option.bind_some _ _).symm.trans H; rw [hy381]; with_reducible exact H2_) | (have H2_ := (Option.bind_some _ _).symm.trans H; with_reducible exact H2_) | with_reducible exact H | (rw [hy381]; exact H) | exact H
  have Ny381 := Aside0.mk hy381
  clear hy381
  have H' := Aside0.mk H
  clear H
  go_enter Try.func123, Try.ntmps123
  go_wp2_with (first | ((with_reducible refine gate_dst (N := 1) rfl ?_); refine boxE_ (cs := #[.int .u64 a0_0, .int .u64 a0_1, .int .u64 a0_2, .int .u64 a0_3]) (t := 29) ?_; intro gb380 hg w2 hbox hb; have BK380 := Aside0.mk (hbox); have GW380 := sizeB_ hg; have GE380 := sizeB_ hg; replace HB := stepB_ hb; clear hb hbox hg; obtain ⟨hcz3_0, hcz3_1, hcz3_2, hcz3_3, hfz3_0, hfz3_1, hfz3_2, hfz3_3⟩ := cz4_ BK380.out) | ((with_reducible refine gate_dst (N := 14) rfl ?_); refine Kd.R_lit (Kd.int .u64) _ 22 ?hg (N := 14) ?hd (xs := ([a0_0, a0_1, a0_2, a0_3] : List Int)) (inner := [.int .u64 a0_0, .int .u64 a0_1, .int .u64 a0_2, .int .u64 a0_3]) (ok := fun _ => True) (okp := fun _ => True) ?hr ?hp (fun _ hk => hk) trivial (Below.refl _ _) (Nat.le_refl _) (by simp) ?_; (case hd => rfl); (case hg => rfl); (case hr => first | (go_simp; done) | (go_simp; rfl)); (case hp => exact (Reps.one (show Kd.M (Kd.int .u64) _ _ _ a0_0 [.int .u64 a0_0] from rfl) (Reps.one (show Kd.M (Kd.int .u64) _ _ _ a0_1 [.int .u64 a0_1] from rfl) (Reps.one (show Kd.M (Kd.int .u64) _ _ _ a0_2 [.int .u64 a0_2] from rfl) (Reps.one (show Kd.M (Kd.int .u64) _ _ _ a0_3 [.int .u64 a0_3] from rfl) (Reps.none _ _)))))); intro v382 w4 ho5 hb hg_ hnew_; clear hg_ hnew_; (first | rw [← Ny381.out] at ho5 | (simp only [Int.reduceToNat] at ho5; rw [← Ny381.out] at ho5)); have HO383 := Aside0.mk (Kd.R_lower ho5 (below_size bel_)); replace BK380 := blkBel_ BK380.out hb; replace HB := stepB_ hb; clear hb ho5; obtain ⟨Ao6, co6, eo6⟩ := Kd.R_slice HO383.out; subst eo6))
  go_loopg [3, 16] k (fun kq v3 v16 w' => ∃ (x3_1 : List Int) (x16_1 : Int), v16 = .int .i64 x16_1 ∧ Aside0 (impl_HashBytes.l0 kq x3_1 y381 (y381.length : Int) x16_1 = some r) ∧ Aside0 (kq ≤ k) ∧ Aside0 (Kd.R (Kd.int .u8) 5 w' w.heap.size (fun _ => True) v3 x3_1) ∧ Aside0 (Kd.R (Kd.int .u64) 22 w' w.heap.size (fun _ => True) (.slice Ao6 y381.length co6) y381) ∧ Aside0 (w'.heap[gb380]? = some (.cells #[.int .u64 a0_0, .int .u64 a0_1, .int .u64 a0_2, .int .u64 a0_3] 29 (0, 0))) ∧ Aside0 (Below w.heap.size w w'))
  case atStart => exact ⟨(([] : List Int)), (0), (by first | rfl | (simp; done) | (simp [*]; done)), H', ⟨Nat.le_refl _⟩, ⟨by first | exact Kd.R_nil _ _ _ _ _ | exact Kd.N_nil _ _ _ _ _ | exact Kd.V_nil _ _ _ _ _ | exact Kd.Q_nil _ _ _ _ _ | exact Kd.S_nil _ _ _ _ _⟩, ⟨kdU_ HO383.out⟩, ⟨blkU_ BK380.out⟩, ⟨bel_⟩⟩
  case round =>
    clear H'
    (try clear hcz3_0); (try clear hcz3_1); (try clear hcz3_2); (try clear hcz3_3); (try clear hfz3_0); (try clear hfz3_1); (try clear hfz3_2); (try clear hfz3_3)
    obtain ⟨x3_1, x16_1, rfl, HA, HK1, HO_3, HO_14, BK380, HB⟩ := hrel
    cases gk with
    | zero => exact absurd HA.out (by simp [impl_HashBytes.l0])
    | succ k1 =>
      have H := HA.out
      clear HA
      simp only [impl_HashBytes.l0] at H
      by_cases c7 : x16_1 < (y381.length : Int)
      · rw [if_pos c7] at H
        have c7b0 : decide (x16_1 < (y381.length : Int)) = true := decide_eq_true c7
        clear c7
        by_cases c8 : 0 ≤ x16_1
        · rw [if_pos c8] at H
          have c8b0 : decide (0 ≤ x16_1) = true := decide_eq_true c8
          clear c8
          by_cases c9 : x16_1 < (y381.length : Int)
          · rw [if_pos c9] at H
            have c9b0 : decide (x16_1 < (y381.length : Int)) = true := decide_eq_true c9
            clear c9
            obtain ⟨t385, A10, H⟩ := bnd_ H
            have H' := Aside0.mk H
            clear H
            have p384 : 0 ≤ (x16_1 : Int) := ofd_
            have q384 : x16_1 < (y381.length : Int) := ofd_
            obtain ⟨ad384, e384, hx384_0⟩ := Kd.at_int (Kd.R_reads' HO_14.out).2.2 x16_1 p384 q384
            cases e384
            replace p384 := eq_true p384
            replace q384 := eq_true q384
            obtain ⟨Ao11, co11, eo11⟩ := Kd.R_slice HO_3.out
            subst eo11
            go_wp2_with (first | ((with_reducible refine gate_callee (f := 111) rfl ?_); refine goL_ (some 23) Try.func111 #[.agg #[], .slice Ao11 x3_1.length co11, .int .u64 (rd y381 x16_1)] ?_; (with_reducible refine (binary_bigEndian_AppendUint64.calls  (fun k_ => some k_ = (.slice Ao11 x3_1.length co11 : Value).ownBlock) (.slice Ao11 x3_1.length co11) x3_1 (rd y381 x16_1) t385 w _ ?side1 ?side2 A10.out).mono ?_); (case side1 => exact bel_); (case side2 => exact Kd.R_tight rfl HO_3.out); rintro e w12 ⟨v386, rfl, ho0, hb, hkp⟩; refine ⟨_, rfl, ?_⟩; replace HO_14 := Aside0.mk (Kd.R_mono (ok' := fun k_ => True) (Kd.R_keptB ((Kd.R_apart' HO_14.out (Kd.R_typed HO_3.out) (by decide))) hkp (fun k_ hk_ hs_ => (hk_.2) hs_)) (fun k_ hk_ => trivial)); replace BK380 := Aside0.mk (blk_kept (blkU_ BK380.out) hkp (fun hs_ => (fun e_ => (Kd.R_ne HO_3.out BK380.out (by decide)) e_) hs_)); have HO387 := Aside0.mk (Kd.R_mono (ok' := fun k_ => True) ho0 (fun k_ hk_ => trivial)); replace HB := Aside0.mk (hb); clear HO_3; (try clear hb); (try clear hkp); (try clear ho0)))
            go_roundg k1
            case measure => have := HK1.out; omega
            case rel => exact ⟨(t385), (wrap64 (x16_1 + 1)), (by first | rfl | (simp; done) | (simp [*]; done)), H', ⟨by have := HK1.out; omega⟩, ⟨kdU_ HO387.out⟩, ⟨kdU_ HO_14.out⟩, ⟨blkU_ BK380.out⟩, ⟨bel_⟩⟩
          · rw [if_neg c9] at H
            exact absurd H (by simp)
        · rw [if_neg c8] at H
          exact absurd H (by simp)
      · rw [if_neg c7] at H
        have c7b0 : decide (x16_1 < (y381.length : Int)) = false := decide_eq_false c7
        clear c7
        obtain rfl := Option.some.inj H
        have hcv13 := own_string (P := Try.prog) Try.underlying60 Try.underlying5 Try.underlying9 (Kd.own_of_R HO_3.out)
        go_wp2
        go_ret
        exact ⟨rfl_, bel_⟩
end
section
def impl_pairText.f (k : Nat) (a0_0 : Int) (a0_1 : Int) (a0_2 : Int) (a0_3 : Int) (a1_0 : Int) (a1_1 : Int) (a1_2 : Int) (a1_3 : Int) : Option (ByteArray) := (impl_HashBytes.f k a0_0 a0_1 a0_2 a0_3).bind fun t390 => (if 1 + t390.size ≤ 9223372036854775807 then ((impl_HashBytes.f k a1_0 a1_1 a1_2 a1_3).bind fun t391 => (if ((⟨#[1]⟩ : ByteArray) ++ t390).size + t391.size ≤ 9223372036854775807 then (some (((⟨#[1]⟩ : ByteArray) ++ t390) ++ t391)) else (none))) else (none))
set_option maxHeartbeats 8000000 in
set_option maxRecDepth 100000 in
theorem impl_pairText.calls (k : Nat) (a0_0 : Int) (a0_1 : Int) (a0_2 : Int) (a0_3 : Int) (a1_0 : Int) (a1_1 : Int) (a1_2 : Int) (a1_3 : Int) (r : ByteArray) (w : World) (h : impl_pairText.f k a0_0 a0_1 a0_2 a0_3 a1_0 a1_1 a1_2 a1_3 = some r) :
    Calls Try.prog 98 #[.agg #[.int .u64 a0_0, .int .u64 a0_1, .int .u64 a0_2, .int .u64 a0_3], .agg #[.int .u64 a1_0, .int .u64 a1_1, .int .u64 a1_2, .int .u64 a1_3]] w fun e w' => e = .returned (.string r) ∧ Below w.heap.size w w' := by
  have hu29 := Try.underlying29
  have HB := Aside0.mk (Below.refl w.heap.size w)
  have H : ((impl_HashBytes.f k a0_0 a0_1 a0_2 a0_3).bind fun t390 => (if 1 + t390.size ≤ 9223372036854775807 then ((impl_HashBytes.f k a1_0 a1_1 a1_2 a1_3).bind fun t391 => (if ((⟨#[1]⟩ : ByteArray) ++ t390).size + t391.size ≤ 9223372036854775807 then (some (((⟨#[1]⟩ : ByteArray) ++ t390) ++ t391)) else (none))) else (none))) = some r := h
  clear h
  obtain ⟨t390, A3, H⟩ := bnd_ H
  by_cases c4 : 1 + t390.size ≤ 9223372036854775807
  · rw [if_pos c4] at H
    have c4b0 := eq_true c4
    have c4b1 : decide (1 + t390.size ≤ 9223372036854775807) = true := decide_eq_true c4
    try have c4b2 : (9223372036854775807 < 1 + t390.size) = False := eq_false (Nat.not_lt.2 c4)
    obtain ⟨t391, A5, H⟩ := bnd_ H
    by_cases c6 : ((⟨#[1]⟩ : ByteArray) ++ t390).size + t391.size ≤ 9223372036854775807
    · rw [if_pos c6] at H
      have c6b0 := eq_true c6
      have c6b1 : decide (((⟨#[1]⟩ : ByteArray) ++ t390).size + t391.size ≤ 9223372036854775807) = true := decide_eq_true c6
      try (have c6b1n := c6b1; simp only [ByteArray.size_append, Int.natCast_add] at c6b1n)
      try have c6b2 : (9223372036854775807 < ((⟨#[1]⟩ : ByteArray) ++ t390).size + t391.size) = False := eq_false (Nat.not_lt.2 c6)
      obtain rfl := Option.some.inj H
      go_enter Try.func98, Try.ntmps98
      try go_wp2_with (first | ((with_reducible refine gate_dst (N := 2) rfl ?_); refine boxE_ (cs := #[.int .u64 a0_0, .int .u64 a0_1, .int .u64 a0_2, .int .u64 a0_3]) (t := 29) ?_; intro gb388 hg w7 hbox hb; have BK388 := Aside0.mk (hbox); have GW388 := sizeB_ hg; have GE388 := sizeB_ hg; replace HB := stepB_ hb; clear hb hbox hg) | ((with_reducible refine gate_dst (N := 3) rfl ?_); refine boxE_ (cs := #[.int .u64 a1_0, .int .u64 a1_1, .int .u64 a1_2, .int .u64 a1_3]) (t := 29) ?_; intro gb389 hg w8 hbox hb; have BK389 := Aside0.mk (hbox); have GW389 := sizeB_ hg; have GE389 := sizeB_ hg; replace HB := stepB_ hb; have NB388_389 := neL_ BK388.out hg; have NB389_388 := neG_ BK388.out hg; replace BK388 := blkBel_ BK388.out hb; clear hb hbox hg))
      replace BK388 := Aside0.mk (blk_drew BK388.out)
      replace BK389 := Aside0.mk (blk_drew BK389.out)
      replace HB := Aside0.mk (below_drew1 HB.out)
      refine start_ (n := 7) (S := fun w' => w'.cell? ⟨gb388, 0, none⟩ = some (.int .u64 a0_0) ∧ w'.cell? ⟨gb388, 1, none⟩ = some (.int .u64 a0_1) ∧ w'.cell? ⟨gb388, 2, none⟩ = some (.int .u64 a0_2) ∧ w'.cell? ⟨gb388, 3, none⟩ = some (.int .u64 a0_3) ∧ w'.cell? ⟨gb389, 0, none⟩ = some (.int .u64 a1_0) ∧ w'.cell? ⟨gb389, 1, none⟩ = some (.int .u64 a1_1) ∧ w'.cell? ⟨gb389, 2, none⟩ = some (.int .u64 a1_2) ∧ w'.cell? ⟨gb389, 3, none⟩ = some (.int .u64 a1_3)) (ds := []) #[false, false, false, false, false, false, false] (by kernel_rfl) rfl rfl ⟨(blk_cell BK388.out 0).trans rfl, (blk_cell BK388.out 1).trans rfl, (blk_cell BK388.out 2).trans rfl, (blk_cell BK388.out 3).trans rfl, (blk_cell BK389.out 0).trans rfl, (blk_cell BK389.out 1).trans rfl, (blk_cell BK389.out 2).trans rfl, (blk_cell BK389.out 3).trans rfl⟩ (fun hHeld => ?_)
      generalize w8.drew = w9 at BK388 BK389 HB hHeld ⊢
      refine take_ (i := 0) (N := some 5) (v := ?_) (a' := ?_) #[true, false, false, false, false, false, false] rfl rfl (by kernel_rfl) (fun _ _ _ h => h) (Or.inl ⟨by rfl, ?_⟩) hHeld ?_ ?_
      rotate_left
      · rintro w' ⟨s0, s1, s2, s3, s4, s5, s6, s7⟩
        go_simp
        first | with_reducible rfl | (rw [if_neg (by intro h_; (try simp only [ByteArray.size_append, ByteArray.size_extract, eq_iff_iff, iff_true, show (⟨#[1]⟩ : ByteArray).size = 1 from rfl] at *); omega)]; first | done | rfl)
      rotate_left
      · simp only [Act.put, List.setIfInBounds_toArray, List.set_cons_zero, List.set_cons_succ, i64_w, i32_w]
        rfl
      refine take_ (i := 3) (N := some 8) (v := ?_) (a' := ?_) #[true, false, false, true, false, false, false] rfl rfl (by kernel_rfl) (fun _ _ _ h => h) (Or.inl ⟨by rfl, ?_⟩) hHeld ?_ ?_
      rotate_left
      · rintro w' ⟨s0, s1, s2, s3, s4, s5, s6, s7⟩
        go_simp
        first | with_reducible rfl | (rw [if_neg (by intro h_; (try simp only [ByteArray.size_append, ByteArray.size_extract, eq_iff_iff, iff_true, show (⟨#[1]⟩ : ByteArray).size = 1 from rfl] at *); omega)]; first | done | rfl)
      rotate_left
      · simp only [Act.put, List.setIfInBounds_toArray, List.set_cons_zero, List.set_cons_succ, i64_w, i32_w]
        rfl
      refine one_ (i := 1) (N := some 6) #[true, true, false, true, false, false, false] rfl rfl (by kernel_rfl) (by decide) (fun K hK => ?_)
      refine goN_ Try.func123 #[.agg #[.int .u64 a0_0, .int .u64 a0_1, .int .u64 a0_2, .int .u64 a0_3]] ?_
      with_reducible refine (impl_HashBytes.calls k a0_0 a0_1 a0_2 a0_3 t390 _ A3.out).mono ?_
      rintro e w10 ⟨rfl, hb⟩
      refine ⟨_, rfl, ?_⟩
      replace BK388 := blkBel_ BK388.out hb
      replace BK389 := blkBel_ BK389.out hb
      replace HB := stepB_ hb
      (try clear hb)
      refine hK.out _ _ ⟨(blk_cell BK388.out 0).trans rfl, (blk_cell BK388.out 1).trans rfl, (blk_cell BK388.out 2).trans rfl, (blk_cell BK388.out 3).trans rfl, (blk_cell BK389.out 0).trans rfl, (blk_cell BK389.out 1).trans rfl, (blk_cell BK389.out 2).trans rfl, (blk_cell BK389.out 3).trans rfl⟩ (fun hHeld => ?_)
      clear hK K
      refine norm_ (a' := ?_) ?_ ?_
      rotate_left
      · show Act.put _ (some 6) _ = _
        simp only [Act.put, List.setIfInBounds_toArray, List.set_cons_zero, List.set_cons_succ, i64_w, i32_w]
        rfl
      refine pure_ (i := 2) (N := some 7) (v := ?_) (a' := ?_) #[true, true, true, true, false, false, false] rfl rfl (by kernel_rfl) (fun _ _ _ h => h) (Or.inl ⟨by rfl, ?_⟩) ?_ ?_
      rotate_left
      · intro w'
        go_simp
        first | with_reducible rfl | (rw [if_neg (by intro h_; (try simp only [ByteArray.size_append, ByteArray.size_extract, eq_iff_iff, iff_true, show (⟨#[1]⟩ : ByteArray).size = 1 from rfl] at *); omega)]; first | done | rfl)
      rotate_left
      · simp only [Act.put, List.setIfInBounds_toArray, List.set_cons_zero, List.set_cons_succ, i64_w, i32_w]
        rfl
      refine one_ (i := 4) (N := some 9) #[true, true, true, true, true, false, false] rfl rfl (by kernel_rfl) (by decide) (fun K hK => ?_)
      refine goN_ Try.func123 #[.agg #[.int .u64 a1_0, .int .u64 a1_1, .int .u64 a1_2, .int .u64 a1_3]] ?_
      with_reducible refine (impl_HashBytes.calls k a1_0 a1_1 a1_2 a1_3 t391 _ A5.out).mono ?_
      rintro e w11 ⟨rfl, hb⟩
      refine ⟨_, rfl, ?_⟩
      replace BK388 := blkBel_ BK388.out hb
      replace BK389 := blkBel_ BK389.out hb
      replace HB := stepB_ hb
      (try clear hb)
      refine hK.out _ _ ⟨(blk_cell BK388.out 0).trans rfl, (blk_cell BK388.out 1).trans rfl, (blk_cell BK388.out 2).trans rfl, (blk_cell BK388.out 3).trans rfl, (blk_cell BK389.out 0).trans rfl, (blk_cell BK389.out 1).trans rfl, (blk_cell BK389.out 2).trans rfl, (blk_cell BK389.out 3).trans rfl⟩ (fun hHeld => ?_)
      clear hK K
      refine norm_ (a' := ?_) ?_ ?_
      rotate_left
      · show Act.put _ (some 9) _ = _
        simp only [Act.put, List.setIfInBounds_toArray, List.set_cons_zero, List.set_cons_succ, i64_w, i32_w]
        rfl
      refine pure_ (i := 5) (N := some 10) (v := ?_) (a' := ?_) #[true, true, true, true, true, true, false] rfl rfl (by kernel_rfl) (fun _ _ _ h => h) (Or.inl ⟨by rfl, ?_⟩) ?_ ?_
      rotate_left
      · intro w'
        go_simp
        first | with_reducible rfl | (rw [if_neg (by intro h_; (try simp only [ByteArray.size_append, ByteArray.size_extract, eq_iff_iff, iff_true, show (⟨#[1]⟩ : ByteArray).size = 1 from rfl] at *); omega)]; first | done | rfl)
      rotate_left
      · simp only [Act.put, List.setIfInBounds_toArray, List.set_cons_zero, List.set_cons_succ, i64_w, i32_w]
        rfl
      refine pure_ (i := 6) (N := some 4) (v := ?_) (a' := ?_) #[true, true, true, true, true, true, true] rfl rfl (by kernel_rfl) (fun _ _ _ h => h) (Or.inl ⟨by rfl, ?_⟩) ?_ ?_
      rotate_left
      · intro w'
        go_simp
        first | with_reducible rfl | (rw [if_neg (by intro h_; (try simp only [ByteArray.size_append, ByteArray.size_extract, eq_iff_iff, iff_true, show (⟨#[1]⟩ : ByteArray).size = 1 from rfl] at *); omega)]; first | done | rfl)
      rotate_left
      · simp only [Act.put, List.setIfInBounds_toArray, List.set_cons_zero, List.set_cons_succ, i64_w, i32_w]
        rfl
      refine done_ (by kernel_rfl) ?_
      try go_wp2
      go_ret
      exact ⟨rfl_, bel_⟩
    · rw [if_neg c6] at H
      exact absurd H (by simp)
  · rw [if_neg c4] at H
    exact absurd H (by simp)
end
section
def impl_HashPair.f (k : Nat) (a0_0 : Int) (a0_1 : Int) (a0_2 : Int) (a0_3 : Int) (a1_0 : Int) (a1_1 : Int) (a1_2 : Int) (a1_3 : Int) : Option (Int × Int × Int × Int) := (impl_pairText.f k a0_0 a0_1 a0_2 a0_3 a1_0 a1_1 a1_2 a1_3).bind fun t395 => ((impl_HashOf.f k t395).bind fun bt396 => (some (bt396.1, bt396.2.1, bt396.2.2.1, bt396.2.2.2)))
set_option maxHeartbeats 8000000 in
set_option maxRecDepth 100000 in
theorem impl_HashPair.calls (k : Nat) (a0_0 : Int) (a0_1 : Int) (a0_2 : Int) (a0_3 : Int) (a1_0 : Int) (a1_1 : Int) (a1_2 : Int) (a1_3 : Int) (r1 : Int) (r2 : Int) (r3 : Int) (r4 : Int) (w : World) (h : impl_HashPair.f k a0_0 a0_1 a0_2 a0_3 a1_0 a1_1 a1_2 a1_3 = some (r1, r2, r3, r4)) :
    Calls Try.prog 110 #[.agg #[.int .u64 a0_0, .int .u64 a0_1, .int .u64 a0_2, .int .u64 a0_3], .agg #[.int .u64 a1_0, .int .u64 a1_1, .int .u64 a1_2, .int .u64 a1_3]] w fun e w' => e = .returned (.agg #[.int .u64 r1, .int .u64 r2, .int .u64 r3, .int .u64 r4]) ∧ Below w.heap.size w w' := by
  have hu29 := Try.underlying29
  have HB := Aside0.mk (Below.refl w.heap.size w)
  have H : ((impl_pairText.f k a0_0 a0_1 a0_2 a0_3 a1_0 a1_1 a1_2 a1_3).bind fun t395 => ((impl_HashOf.f k t395).bind fun bt396 => (some (bt396.1, bt396.2.1, bt396.2.2.1, bt396.2.2.2)))) = some (r1, r2, r3, r4) := h
  clear h
  obtain ⟨t395, A3, H⟩ := bnd_ H
  obtain ⟨⟨t396, t397, t398, t399⟩, A4, H⟩ := bnd_ H
  dsimp only at H
  simp only [Option.some.injEq, Prod.mk.injEq] at H
  obtain ⟨rfl, rfl, rfl, rfl⟩ := H
  go_enter Try.func110, Try.ntmps110
  go_wp2_with (first | ((with_reducible refine gate_dst (N := 2) rfl ?_); refine boxE_ (cs := #[.int .u64 a0_0, .int .u64 a0_1, .int .u64 a0_2, .int .u64 a0_3]) (t := 29) ?_; intro gb392 hg w5 hbox hb; have BK392 := Aside0.mk (hbox); have GW392 := sizeB_ hg; have GE392 := sizeB_ hg; replace HB := stepB_ hb; clear hb hbox hg) | ((with_reducible refine gate_dst (N := 3) rfl ?_); refine boxE_ (cs := #[.int .u64 a1_0, .int .u64 a1_1, .int .u64 a1_2, .int .u64 a1_3]) (t := 29) ?_; intro gb393 hg w6 hbox hb; have BK393 := Aside0.mk (hbox); have GW393 := sizeB_ hg; have GE393 := sizeB_ hg; replace HB := stepB_ hb; have NB392_393 := neL_ BK392.out hg; have NB393_392 := neG_ BK392.out hg; replace BK392 := blkBel_ BK392.out hb; clear hb hbox hg) | ((with_reducible refine gate_dst (N := 4) rfl ?_); refine boxE_ (cs := #[.int .u64 0, .int .u64 0, .int .u64 0, .int .u64 0]) (t := 29) ?_; intro gb394 hg w7 hbox hb; have BK394 := Aside0.mk (hbox); have GW394 := sizeB_ hg; have GE394 := sizeB_ hg; replace HB := stepB_ hb; have NB392_394 := neL_ BK392.out hg; have NB394_392 := neG_ BK392.out hg; replace BK392 := blkBel_ BK392.out hb; have NB393_394 := neL_ BK393.out hg; have NB394_393 := neG_ BK393.out hg; replace BK393 := blkBel_ BK393.out hb; clear hb hbox hg; have hnb8 := NB392_393.out; have hnc8 := NB393_392.out; have hnb9 := NB392_394.out; have hnc9 := NB394_392.out; obtain ⟨hcz10_0, hcz10_1, hcz10_2, hcz10_3, hfz10_0, hfz10_1, hfz10_2, hfz10_3⟩ := cz4_ BK392.out; have hnb11 := NB393_394.out; have hnc11 := NB394_393.out; obtain ⟨hcz12_0, hcz12_1, hcz12_2, hcz12_3, hfz12_0, hfz12_1, hfz12_2, hfz12_3⟩ := cz4_ BK393.out) | ((with_reducible refine gate_callee (f := 98) rfl ?_); refine goL_ (some 7) Try.func98 #[.agg #[.int .u64 a0_0, .int .u64 a0_1, .int .u64 a0_2, .int .u64 a0_3], .agg #[.int .u64 a1_0, .int .u64 a1_1, .int .u64 a1_2, .int .u64 a1_3]] ?_; (with_reducible refine (impl_pairText.calls k a0_0 a0_1 a0_2 a0_3 a1_0 a1_1 a1_2 a1_3 t395 _ A3.out).mono ?_); rintro e w13 ⟨rfl, hb⟩; refine ⟨_, rfl, ?_⟩; replace BK392 := blkBel_ BK392.out hb; replace BK393 := blkBel_ BK393.out hb; replace BK394 := blkBel_ BK394.out hb; replace HB := stepB_ hb; (try clear hb)) | ((with_reducible refine gate_callee (f := 68) rfl ?_); refine goL_ (some 8) Try.func68 #[.string t395] ?_; (with_reducible refine (impl_HashOf.calls k t395 t396 t397 t398 t399 _ A4.out).mono ?_); rintro e w14 ⟨rfl, hb⟩; refine ⟨_, rfl, ?_⟩; replace BK392 := blkBel_ BK392.out hb; replace BK393 := blkBel_ BK393.out hb; replace BK394 := blkBel_ BK394.out hb; replace HB := stepB_ hb; (try clear hb); obtain ⟨hcz15_0, hcz15_1, hcz15_2, hcz15_3, hfz15_0, hfz15_1, hfz15_2, hfz15_3⟩ := cz4_ BK394.out))
  refine bodyPost_ret (results_cell_row rfl _ _ gb394 29 #[.int .u64 t396, .int .u64 t397, .int .u64 t398, .int .u64 t399] (0, 0) _ rfl (blkF_ BK394.out) Try.underlying29 rfl (by kernel_rfl)) rfl ?_
  exact ⟨rfl_, bel_⟩
end
end Go.Proofs.Ytflckegggopdnaa.B
