/- Texts that this claim's law leans on, without what nothing names. What each says stands at its theorems; conditions stand in them. (Put together by the session's program shake.py; Lean checks it.) -/
import Derived.Test.YtflckegggopdnaaZCHP0
import Derived.Test.YtflckegggopdnaaZCHP3
import Derived.Test.YtflckegggopdnaaZCHP2
import Derived.Test.YtflckegggopdnaaZCHGLawD1
import Derived.Test.YtflckegggopdnaaZCHGSpecHash1
import Derived.Test.YtflckegggopdnaaZCHP9
namespace Go.Proofs.Ytflckegggopdnaa.B
section
open Go.RowKit Go.Proofs.YtflckegggopdnaaW.PrintWords Go.Proofs.YtflckegggopdnaaW.PrintLast Go.Proofs.YtflckegggopdnaaW.PrintMore
attribute [local go_sem] max2_int min2_int max_two min_two max_three min_three max_four min_four
set_option linter.unusedVariables false
set_option maxHeartbeats 8000000
set_option maxRecDepth 100000
set_option linter.unusedSimpArgs false
section
def impl_HashBytes.l0 : Nat → List Int → List Int → Int → Int → Option (ByteArray)
 | 0, _, _, _, _ => none
 | k + 1, x3, x14, x15, x16 => if x16 < x15 then (if 0 ≤ x16 then (if x16 < (x14.length : Int) then ((binary_bigEndian_AppendUint64.f x3 (rd x14 x16)).bind fun t385 => (impl_HashBytes.l0 k t385 x14 x15 (wrap64 (x16 + 1)))) else (none)) else (none)) else (some (strOfNums x3))
def impl_HashBytes.f (k : Nat) (a0_0 a0_1 : Int) (a0_2 a0_3 : Int) : Option (ByteArray) := (some (([a0_0, a0_1, a0_2, a0_3] : List Int) : List Int)).bind fun y381 => (impl_HashBytes.l0 k ([] : List Int) y381 (y381.length : Int) 0)
theorem impl_HashBytes.calls (k : Nat) (a0_0 a0_1 : Int) (a0_2 a0_3 : Int) (r : ByteArray) (w : World) (h : impl_HashBytes.f k a0_0 a0_1 a0_2 a0_3 = some r) :
  Calls Try.prog 123 #[.agg #[.int .u64 a0_0, .int .u64 a0_1, .int .u64 a0_2, .int .u64 a0_3]] w fun e w' => e = .returned (.string r) ∧ Below w.heap.size w w' := by
 have hu29 := Try.underlying29
 have hu141 := Try.underlying141
 have HB := a_ (Below.refl w.heap.size w)
 have H := h
 unfold impl_HashBytes.f at H
 clear h
 obtain ⟨y381, hy381⟩ : ∃ y_ : List Int, y_ = (([a0_0, a0_1, a0_2, a0_3] : List Int)) := ⟨_, rfl⟩
 replace H : (impl_HashBytes.l0 k ([] : List Int) y381 (y381.length : Int) 0) = some r := rpl_ hy381 H
 have Ny381 := Aside0.mk hy381
 clear hy381
 have H' := Aside0.mk H
 clear H
 go_enter Try.func123, Try.ntmps123
 go_wp2_with (first | ((with_reducible refine gate_dst (N := 1) rfl ?_); refine boxE_ (cs := #[.int .u64 a0_0, .int .u64 a0_1, .int .u64 a0_2, .int .u64 a0_3]) (t := 29) ?_; intro gb380 hg w2 hbox hb; have BK380 := a_ (hbox); have GW380 := sizeB_ hg; replace HB := stepB_ hb; clear hb hbox hg; obtain ⟨z3_0, z3_1, z3_2, z3_3, f3_0, f3_1, f3_2, f3_3⟩ := cz4_ BK380.out) | ((with_reducible refine gate_dst (N := 14) rfl ?_); refine Kd.R_lit (Kd.int .u64) _ 22 ?hg (N := 14) ?hd (xs := ([a0_0, a0_1, a0_2, a0_3] : List Int)) (inner := [.int .u64 a0_0, .int .u64 a0_1, .int .u64 a0_2, .int .u64 a0_3]) (ok := fun _ => True) (okp := fun _ => True) ?hr ?hp (fun _ hk => hk) trivial (Below.refl _ _) (Nat.le_refl _) (by simp) ?_; (case hd => rfl); (case hg => rfl); (case hr => first | (go_simp; done) | (go_simp; rfl)); (case hp => exact (Reps.one (show Kd.M (Kd.int .u64) _ _ _ a0_0 [.int .u64 a0_0] from rfl) (Reps.one (show Kd.M (Kd.int .u64) _ _ _ a0_1 [.int .u64 a0_1] from rfl) (Reps.one (show Kd.M (Kd.int .u64) _ _ _ a0_2 [.int .u64 a0_2] from rfl) (Reps.one (show Kd.M (Kd.int .u64) _ _ _ a0_3 [.int .u64 a0_3] from rfl) (Reps.none _ _)))))); intro v382 w4 ho5 hb hg_ hnew_; clear hg_ hnew_; (first | rw [← Ny381.out] at ho5 | (simp only [Int.reduceToNat] at ho5; rw [← Ny381.out] at ho5)); have HO383 := a_ (Kd.R_lower ho5 (below_size bel_)); replace BK380 := bb_ BK380.out hb; replace HB := stepB_ hb; clear hb ho5; obtain ⟨Ao6, co6, eo6⟩ := Kd.R_slice HO383.out; subst eo6))
 go_loopg [3, 16] k (fun kq v3 v16 w' => ∃ (x3_1 : List Int) (x16_1 : Int), v16 = .int .i64 x16_1 ∧ Aside0 (impl_HashBytes.l0 kq x3_1 y381 (y381.length : Int) x16_1 = some r) ∧ Aside0 (kq ≤ k) ∧ Aside0 (Kd.R (Kd.int .u8) 5 w' w.heap.size (fun _ => True) v3 x3_1) ∧ Aside0 (Kd.R (Kd.int .u64) 22 w' w.heap.size (fun _ => True) (.slice Ao6 y381.length co6) y381) ∧ Aside0 (w'.heap[gb380]? = some (.cells #[.int .u64 a0_0, .int .u64 a0_1, .int .u64 a0_2, .int .u64 a0_3] 29 (0, 0))) ∧ Aside0 (Below w.heap.size w w'))
 case atStart => exact ⟨(([] : List Int)), (0), rl_, H', ⟨Nat.le_refl _⟩, ⟨by first | exact Kd.R_nil _ _ _ _ _ | exact Kd.N_nil _ _ _ _ _ | exact Kd.V_nil _ _ _ _ _ | exact Kd.Q_nil _ _ _ _ _ | exact Kd.S_nil _ _ _ _ _⟩, ⟨kdU_ HO383.out⟩, ⟨blkU_ BK380.out⟩, ⟨bel_⟩⟩
 case round =>
  clear H'
  (try clear z3_0 z3_1 z3_2 z3_3); (try clear f3_0 f3_1 f3_2 f3_3)
  obtain ⟨x3_1, x16_1, rfl, HA, HK1, HO_3, HO_14, BK380, HB⟩ := hrel
  cases gk with
  | zero => exact absurd HA.out (by simp [impl_HashBytes.l0])
  | succ k1 =>
   have H := HA.out
   clear HA
   simp only [impl_HashBytes.l0] at H
   by_cases c7 : x16_1 < (y381.length : Int)
   ·rw [if_pos c7] at H
    have c7b0 := decide_eq_true c7
    clear c7
    by_cases c8 : 0 ≤ x16_1
    ·rw [if_pos c8] at H
     have c8b0 := decide_eq_true c8
     clear c8
     by_cases c9 : x16_1 < (y381.length : Int)
     ·rw [if_pos c9] at H
      have c9b0 := decide_eq_true c9
      clear c9
      obtain ⟨t385, A10, H⟩ := bnd_ H
      have H' := Aside0.mk H
      clear H
      have p384 : 0 ≤ (x16_1 : Int) := ofd_
      have q384 : x16_1 < (y381.length : Int) := ofd_
      obtain ⟨ad384, e384, hx384_0⟩ := Kd.at_int (Kd.R_reads' HO_14.out).2.2 x16_1 p384 q384
      cases e384
      replace p384 := eq_true p384
      replace q384 := eq_true q384
      obtain ⟨Ao11, co11, eo11⟩ := Kd.R_slice HO_3.out
      subst eo11
      go_wp2_with (first | (refine gcL_ 111 (some 23) Try.func111 #[.agg #[], .slice Ao11 x3_1.length co11, .int .u64 (rd y381 x16_1)] ?_; (with_reducible refine (binary_bigEndian_AppendUint64.calls  (fun k_ => some k_ = (.slice Ao11 x3_1.length co11 : Value).ownBlock) (.slice Ao11 x3_1.length co11) x3_1 (rd y381 x16_1) t385 w _ ?side1 ?side2 A10.out).mono ?_); (case side1 => exact bel_); (case side2 => exact Kd.R_tight rfl HO_3.out); rintro e w12 ⟨v386, rfl, ho0, hb, hkp⟩; refine ⟨_, rfl, ?_⟩; replace HO_14 := a_ (Kd.R_mono (ok' := fun k_ => True) (Kd.R_keptB ((Kd.R_apart' HO_14.out (Kd.R_typed HO_3.out) (by decide))) hkp (fun k_ hk_ hs_ => (hk_.2) hs_)) (fun k_ hk_ => trivial)); replace BK380 := a_ (blk_kept (blkU_ BK380.out) hkp (fun hs_ => (fun e_ => (Kd.R_ne HO_3.out BK380.out (by decide)) e_) hs_)); have HO387 := a_ (Kd.R_mono (ok' := fun k_ => True) ho0 (fun k_ hk_ => trivial)); replace HB := a_ (hb); clear HO_3; (try clear hb); (try clear hkp); (try clear ho0)))
      go_roundg k1
      case measure => have := HK1.out; omega
      case rel => exact ⟨(t385), (wrap64 (x16_1 + 1)), rl_, H', ⟨by have := HK1.out; omega⟩, ⟨kdU_ HO387.out⟩, ⟨kdU_ HO_14.out⟩, ⟨blkU_ BK380.out⟩, ⟨bel_⟩⟩
     ·rw [if_neg c9] at H
      exact absurd H (by simp)
    ·rw [if_neg c8] at H
     exact absurd H (by simp)
   ·rw [if_neg c7] at H
    have c7b0 := decide_eq_false c7
    clear c7
    obtain rfl := Option.some.inj H
    have hcv13 := own_string (P := Try.prog) Try.underlying60 Try.underlying5 Try.underlying9 (Kd.own_of_R HO_3.out)
    go_wp2
    go_ret
    exact ⟨rfl_, bel_⟩
end
section
def impl_pairText.f (k : Nat) (a0_0 a0_1 : Int) (a0_2 a0_3 : Int) (a1_0 a1_1 : Int) (a1_2 a1_3 : Int) : Option (ByteArray) := (impl_HashBytes.f k a0_0 a0_1 a0_2 a0_3).bind fun t390 => (if 1 + t390.size ≤ 9223372036854775807 then ((impl_HashBytes.f k a1_0 a1_1 a1_2 a1_3).bind fun t391 => (if ((⟨#[1]⟩ : ByteArray) ++ t390).size + t391.size ≤ 9223372036854775807 then (some (((⟨#[1]⟩ : ByteArray) ++ t390) ++ t391)) else (none))) else (none))
theorem impl_pairText.calls (k : Nat) (a0_0 a0_1 : Int) (a0_2 a0_3 : Int) (a1_0 a1_1 : Int) (a1_2 a1_3 : Int) (r : ByteArray) (w : World) (h : impl_pairText.f k a0_0 a0_1 a0_2 a0_3 a1_0 a1_1 a1_2 a1_3 = some r) :
  Calls Try.prog 98 #[.agg #[.int .u64 a0_0, .int .u64 a0_1, .int .u64 a0_2, .int .u64 a0_3], .agg #[.int .u64 a1_0, .int .u64 a1_1, .int .u64 a1_2, .int .u64 a1_3]] w fun e w' => e = .returned (.string r) ∧ Below w.heap.size w w' := by
 have hu29 := Try.underlying29
 have HB := a_ (Below.refl w.heap.size w)
 have H := h
 unfold impl_pairText.f at H
 clear h
 obtain ⟨t390, A3, H⟩ := bnd_ H
 by_cases c4 : 1 + t390.size ≤ 9223372036854775807
 ·rw [if_pos c4] at H
  have c4b0 := eq_true c4
  have c4b1 := decide_eq_true c4
  try have c4b2 : (9223372036854775807 < 1 + t390.size) = False := eq_false (Nat.not_lt.2 c4)
  obtain ⟨t391, A5, H⟩ := bnd_ H
  by_cases c6 : ((⟨#[1]⟩ : ByteArray) ++ t390).size + t391.size ≤ 9223372036854775807
  ·rw [if_pos c6] at H
   have c6b0 := eq_true c6
   have c6b1 := decide_eq_true c6
   try (have c6b1n := c6b1; simp only [ByteArray.size_append, Int.natCast_add] at c6b1n)
   try have c6b2 : (9223372036854775807 < ((⟨#[1]⟩ : ByteArray) ++ t390).size + t391.size) = False := eq_false (Nat.not_lt.2 c6)
   obtain rfl := Option.some.inj H
   go_enter Try.func98, Try.ntmps98
   try go_wp2_with (first | ((with_reducible refine gate_dst (N := 2) rfl ?_); refine boxE_ (cs := #[.int .u64 a0_0, .int .u64 a0_1, .int .u64 a0_2, .int .u64 a0_3]) (t := 29) ?_; intro gb388 hg w7 hbox hb; have BK388 := a_ (hbox); have GW388 := sizeB_ hg; replace HB := stepB_ hb; clear hb hbox hg) | ((with_reducible refine gate_dst (N := 3) rfl ?_); refine boxE_ (cs := #[.int .u64 a1_0, .int .u64 a1_1, .int .u64 a1_2, .int .u64 a1_3]) (t := 29) ?_; intro gb389 hg w8 hbox hb; have BK389 := a_ (hbox); have GW389 := sizeB_ hg; replace HB := stepB_ hb; obtain ⟨NB388_389, NB389_388⟩ := ne2_ BK388.out hg; replace BK388 := bb_ BK388.out hb; clear hb hbox hg))
   replace BK388 := a_ (blk_drew BK388.out)
   replace BK389 := a_ (blk_drew BK389.out)
   replace HB := a_ (below_drew1 HB.out)
   refine start_ (n := 7) (S := fun w' => hdc4_ w' gb388 (.int .u64 a0_0) (.int .u64 a0_1) (.int .u64 a0_2) (.int .u64 a0_3) (hd4_ w' gb389 (.int .u64 a1_0) (.int .u64 a1_1) (.int .u64 a1_2) (.int .u64 a1_3))) (ds := []) #[false, false, false, false, false, false, false] (by kernel_rfl) rfl rfl (hcc4_ BK388.out (hc4_ BK389.out)) (fun hHeld => ?_)
   generalize w8.drew = w9 at BK388 BK389 HB hHeld ⊢
   refine take_ (i := 0) (N := some 5) (v := ?_) (a' := ?_) #[true, false, false, false, false, false, false] rfl rfl (by kernel_rfl) (fun _ _ _ h => h) (Or.inl ⟨by rfl, ?_⟩) hHeld ?_ ?_
   rotate_left
   ·rintro w' ⟨s0, s1, s2, s3, s4, s5, s6, s7⟩
    go_simp
    first | with_reducible rfl | (rw [if_neg (by intro h_; (try simp only [ByteArray.size_append, ByteArray.size_extract, eq_iff_iff, iff_true, show (⟨#[1]⟩ : ByteArray).size = 1 from rfl] at *); omega)]; first | done | rfl)
   rotate_left
   ·simp only [Act.put, List.setIfInBounds_toArray, List.set_cons_zero, List.set_cons_succ, i64_w, i32_w]
    rfl
   refine take_ (i := 3) (N := some 8) (v := ?_) (a' := ?_) #[true, false, false, true, false, false, false] rfl rfl (by kernel_rfl) (fun _ _ _ h => h) (Or.inl ⟨by rfl, ?_⟩) hHeld ?_ ?_
   rotate_left
   ·rintro w' ⟨s0, s1, s2, s3, s4, s5, s6, s7⟩
    go_simp
    first | with_reducible rfl | (rw [if_neg (by intro h_; (try simp only [ByteArray.size_append, ByteArray.size_extract, eq_iff_iff, iff_true, show (⟨#[1]⟩ : ByteArray).size = 1 from rfl] at *); omega)]; first | done | rfl)
   rotate_left
   ·simp only [Act.put, List.setIfInBounds_toArray, List.set_cons_zero, List.set_cons_succ, i64_w, i32_w]
    rfl
   refine one_ (i := 1) (N := some 6) #[true, true, false, true, false, false, false] rfl rfl (by kernel_rfl) (by decide) (fun K hK => ?_)
   refine goN_ Try.func123 #[.agg #[.int .u64 a0_0, .int .u64 a0_1, .int .u64 a0_2, .int .u64 a0_3]] ?_
   with_reducible refine (impl_HashBytes.calls k a0_0 a0_1 a0_2 a0_3 t390 _ A3.out).mono ?_
   rintro e w10 ⟨rfl, hb⟩
   refine ⟨_, rfl, ?_⟩
   replace BK388 := bb_ BK388.out hb
   replace BK389 := bb_ BK389.out hb
   replace HB := stepB_ hb
   (try clear hb)
   refine hK.out _ _ (hcc4_ BK388.out (hc4_ BK389.out)) (fun hHeld => ?_)
   clear hK K
   refine normP_ (some 6) ?_
   refine pure_ (i := 2) (N := some 7) (v := ?_) (a' := ?_) #[true, true, true, true, false, false, false] rfl rfl (by kernel_rfl) (fun _ _ _ h => h) (Or.inl ⟨by rfl, ?_⟩) ?_ ?_
   rotate_left
   ·intro w'
    go_simp
    first | with_reducible rfl | (rw [if_neg (by intro h_; (try simp only [ByteArray.size_append, ByteArray.size_extract, eq_iff_iff, iff_true, show (⟨#[1]⟩ : ByteArray).size = 1 from rfl] at *); omega)]; first | done | rfl)
   rotate_left
   ·simp only [Act.put, List.setIfInBounds_toArray, List.set_cons_zero, List.set_cons_succ, i64_w, i32_w]
    rfl
   refine one_ (i := 4) (N := some 9) #[true, true, true, true, true, false, false] rfl rfl (by kernel_rfl) (by decide) (fun K hK => ?_)
   refine goN_ Try.func123 #[.agg #[.int .u64 a1_0, .int .u64 a1_1, .int .u64 a1_2, .int .u64 a1_3]] ?_
   with_reducible refine (impl_HashBytes.calls k a1_0 a1_1 a1_2 a1_3 t391 _ A5.out).mono ?_
   rintro e w11 ⟨rfl, hb⟩
   refine ⟨_, rfl, ?_⟩
   replace BK388 := bb_ BK388.out hb
   replace BK389 := bb_ BK389.out hb
   replace HB := stepB_ hb
   (try clear hb)
   refine hK.out _ _ (hcc4_ BK388.out (hc4_ BK389.out)) (fun hHeld => ?_)
   clear hK K
   refine normP_ (some 9) ?_
   refine pure_ (i := 5) (N := some 10) (v := ?_) (a' := ?_) #[true, true, true, true, true, true, false] rfl rfl (by kernel_rfl) (fun _ _ _ h => h) (Or.inl ⟨by rfl, ?_⟩) ?_ ?_
   rotate_left
   ·intro w'
    go_simp
    first | with_reducible rfl | (rw [if_neg (by intro h_; (try simp only [ByteArray.size_append, ByteArray.size_extract, eq_iff_iff, iff_true, show (⟨#[1]⟩ : ByteArray).size = 1 from rfl] at *); omega)]; first | done | rfl)
   rotate_left
   ·simp only [Act.put, List.setIfInBounds_toArray, List.set_cons_zero, List.set_cons_succ, i64_w, i32_w]
    rfl
   refine pure_ (i := 6) (N := some 4) (v := ?_) (a' := ?_) #[true, true, true, true, true, true, true] rfl rfl (by kernel_rfl) (fun _ _ _ h => h) (Or.inl ⟨by rfl, ?_⟩) ?_ ?_
   rotate_left
   ·intro w'
    go_simp
    first | with_reducible rfl | (rw [if_neg (by intro h_; (try simp only [ByteArray.size_append, ByteArray.size_extract, eq_iff_iff, iff_true, show (⟨#[1]⟩ : ByteArray).size = 1 from rfl] at *); omega)]; first | done | rfl)
   rotate_left
   ·simp only [Act.put, List.setIfInBounds_toArray, List.set_cons_zero, List.set_cons_succ, i64_w, i32_w]
    rfl
   refine done_ (by kernel_rfl) ?_
   try go_wp2
   go_ret
   exact ⟨rfl_, bel_⟩
  ·rw [if_neg c6] at H
   exact absurd H (by simp)
 ·rw [if_neg c4] at H
  exact absurd H (by simp)
end
section
def impl_HashPair.f (k : Nat) (a0_0 a0_1 : Int) (a0_2 a0_3 : Int) (a1_0 a1_1 : Int) (a1_2 a1_3 : Int) : Option (Int × Int × Int × Int) := (impl_pairText.f k a0_0 a0_1 a0_2 a0_3 a1_0 a1_1 a1_2 a1_3).bind fun t395 => ((impl_HashOf.f k t395).bind fun bt396 => (some (bt396.1, bt396.2.1, bt396.2.2.1, bt396.2.2.2)))
theorem impl_HashPair.calls (k : Nat) (a0_0 a0_1 : Int) (a0_2 a0_3 : Int) (a1_0 a1_1 : Int) (a1_2 a1_3 : Int) (r1 r2 : Int) (r3 r4 : Int) (w : World) (h : impl_HashPair.f k a0_0 a0_1 a0_2 a0_3 a1_0 a1_1 a1_2 a1_3 = some (r1, r2, r3, r4)) :
  Calls Try.prog 110 #[.agg #[.int .u64 a0_0, .int .u64 a0_1, .int .u64 a0_2, .int .u64 a0_3], .agg #[.int .u64 a1_0, .int .u64 a1_1, .int .u64 a1_2, .int .u64 a1_3]] w fun e w' => e = .returned (.agg #[.int .u64 r1, .int .u64 r2, .int .u64 r3, .int .u64 r4]) ∧ Below w.heap.size w w' := by
 have hu29 := Try.underlying29
 have HB := a_ (Below.refl w.heap.size w)
 have H := h
 unfold impl_HashPair.f at H
 clear h
 obtain ⟨t395, A3, H⟩ := bnd_ H
 obtain ⟨⟨t396, t397, t398, t399⟩, A4, H⟩ := bnd_ H
 dsimp only at H
 simp only [Option.some.injEq, Prod.mk.injEq] at H
 obtain ⟨rfl, rfl, rfl, rfl⟩ := H
 go_enter Try.func110, Try.ntmps110
 go_wp2_with (first | ((with_reducible refine gate_dst (N := 2) rfl ?_); refine boxE_ (cs := #[.int .u64 a0_0, .int .u64 a0_1, .int .u64 a0_2, .int .u64 a0_3]) (t := 29) ?_; intro gb392 hg w5 hbox hb; have BK392 := a_ (hbox); have GW392 := sizeB_ hg; replace HB := stepB_ hb; clear hb hbox hg) | ((with_reducible refine gate_dst (N := 3) rfl ?_); refine boxE_ (cs := #[.int .u64 a1_0, .int .u64 a1_1, .int .u64 a1_2, .int .u64 a1_3]) (t := 29) ?_; intro gb393 hg w6 hbox hb; have BK393 := a_ (hbox); have GW393 := sizeB_ hg; replace HB := stepB_ hb; obtain ⟨NB392_393, NB393_392⟩ := ne2_ BK392.out hg; replace BK392 := bb_ BK392.out hb; clear hb hbox hg) | ((with_reducible refine gate_dst (N := 4) rfl ?_); refine boxE_ (cs := #[.int .u64 0, .int .u64 0, .int .u64 0, .int .u64 0]) (t := 29) ?_; intro gb394 hg w7 hbox hb; have BK394 := a_ (hbox); have GW394 := sizeB_ hg; replace HB := stepB_ hb; obtain ⟨NB392_394, NB394_392⟩ := ne2_ BK392.out hg; replace BK392 := bb_ BK392.out hb; obtain ⟨NB393_394, NB394_393⟩ := ne2_ BK393.out hg; replace BK393 := bb_ BK393.out hb; clear hb hbox hg; have hnb8 := NB392_393.out; have hnc8 := NB393_392.out; have hnb9 := NB392_394.out; have hnc9 := NB394_392.out; obtain ⟨z10_0, z10_1, z10_2, z10_3, f10_0, f10_1, f10_2, f10_3⟩ := cz4_ BK392.out; have hnb11 := NB393_394.out; have hnc11 := NB394_393.out; obtain ⟨z12_0, z12_1, z12_2, z12_3, f12_0, f12_1, f12_2, f12_3⟩ := cz4_ BK393.out) | (refine gcL_ 98 (some 7) Try.func98 #[.agg #[.int .u64 a0_0, .int .u64 a0_1, .int .u64 a0_2, .int .u64 a0_3], .agg #[.int .u64 a1_0, .int .u64 a1_1, .int .u64 a1_2, .int .u64 a1_3]] ?_; (with_reducible refine (impl_pairText.calls k a0_0 a0_1 a0_2 a0_3 a1_0 a1_1 a1_2 a1_3 t395 _ A3.out).mono ?_); rintro e w13 ⟨rfl, hb⟩; refine ⟨_, rfl, ?_⟩; replace BK392 := bb_ BK392.out hb; replace BK393 := bb_ BK393.out hb; replace BK394 := bb_ BK394.out hb; replace HB := stepB_ hb; (try clear hb)) | (refine gcL_ 68 (some 8) Try.func68 #[.string t395] ?_; (with_reducible refine (impl_HashOf.calls k t395 t396 t397 t398 t399 _ A4.out).mono ?_); rintro e w14 ⟨rfl, hb⟩; refine ⟨_, rfl, ?_⟩; replace BK392 := bb_ BK392.out hb; replace BK393 := bb_ BK393.out hb; replace BK394 := bb_ BK394.out hb; replace HB := stepB_ hb; (try clear hb); obtain ⟨z15_0, z15_1, z15_2, z15_3, f15_0, f15_1, f15_2, f15_3⟩ := cz4_ BK394.out))
 refine bodyPost_ret (results_cell_row rfl _ _ gb394 29 #[.int .u64 t396, .int .u64 t397, .int .u64 t398, .int .u64 t399] (0, 0) _ rfl (blkF_ BK394.out) Try.underlying29 rfl (by kernel_rfl)) rfl ?_
 exact ⟨rfl_, bel_⟩
end
section
def impl_leafText.f (a0 : ByteArray) : Option (ByteArray) := if 1 + a0.size ≤ 9223372036854775807 then (some ((⟨#[0]⟩ : ByteArray) ++ a0)) else (none)
theorem impl_leafText.calls (a0 r : ByteArray) (w : World) (h : impl_leafText.f a0 = some r) :
  Calls Try.prog 100 #[.string a0] w fun e w' => e = .returned (.string r) ∧ Drawn0 w w' := by
 have H := h
 unfold impl_leafText.f at H
 clear h
 by_cases c2 : 1 + a0.size ≤ 9223372036854775807
 ·rw [if_pos c2] at H
  have c2b0 := eq_true c2
  have c2b1 := decide_eq_true c2
  try have c2b2 : (9223372036854775807 < 1 + a0.size) = False := eq_false (Nat.not_lt.2 c2)
  obtain rfl := Option.some.inj H
  go_enter Try.func100, Try.ntmps100
  go_wp2
  go_ret
  exact ⟨rl_, dr_⟩
 ·rw [if_neg c2] at H
  exact absurd H (by simp)
end
section
def impl_HashLeaf.f (k : Nat) (a0 : ByteArray) : Option (Int × Int × Int × Int) := (impl_leafText.f a0).bind fun t837 => ((impl_HashOf.f k t837).bind fun bt838 => (some (bt838.1, bt838.2.1, bt838.2.2.1, bt838.2.2.2)))
theorem impl_HashLeaf.calls (k : Nat) (a0 : ByteArray) (r1 r2 : Int) (r3 r4 : Int) (w : World) (h : impl_HashLeaf.f k a0 = some (r1, r2, r3, r4)) :
  Calls Try.prog 108 #[.string a0] w fun e w' => e = .returned (.agg #[.int .u64 r1, .int .u64 r2, .int .u64 r3, .int .u64 r4]) ∧ Below w.heap.size w w' := by
 have hu29 := Try.underlying29
 have HB := a_ (Below.refl w.heap.size w)
 have H := h
 unfold impl_HashLeaf.f at H
 clear h
 obtain ⟨t837, A2, H⟩ := bnd_ H
 obtain ⟨⟨t838, t839, t840, t841⟩, A3, H⟩ := bnd_ H
 dsimp only at H
 simp only [Option.some.injEq, Prod.mk.injEq] at H
 obtain ⟨rfl, rfl, rfl, rfl⟩ := H
 go_enter Try.func108, Try.ntmps108
 go_wp2_with (first | ((with_reducible refine gate_dst (N := 2) rfl ?_); refine boxE_ (cs := #[.int .u64 0, .int .u64 0, .int .u64 0, .int .u64 0]) (t := 29) ?_; intro gb836 hg w4 hbox hb; have BK836 := a_ (hbox); have GW836 := sizeB_ hg; replace HB := stepB_ hb; clear hb hbox hg) | (refine gcL_ 100 (some 4) Try.func100 #[.string a0] ?_; (with_reducible refine (impl_leafText.calls a0 t837 _ A2.out).mono ?_); rintro e w' ⟨rfl, ⟨nd, rfl⟩⟩; refine ⟨_, rfl, ?_⟩; (try (rw [drewN_self w4]; generalize hq_ : World.drewN w4 _ = w4; have n0_ : Aside0 (w4.heap[gb836]? = some (.cells #[.int .u64 0, .int .u64 0, .int .u64 0, .int .u64 0] 29 (0, 0))) := ⟨by rw [← hq_]; exact (blkU_ BK836.out)⟩; have n1_ : Aside0 (Below w.heap.size w w4) := ⟨by rw [← hq_]; exact bel_⟩; clear BK836 HB hq_; have BK836 := n0_; have HB := n1_; clear n0_ n1_))) | (refine gcL_ 68 (some 5) Try.func68 #[.string t837] ?_; (with_reducible refine (impl_HashOf.calls k t837 t838 t839 t840 t841 _ A3.out).mono ?_); rintro e w5 ⟨rfl, hb⟩; refine ⟨_, rfl, ?_⟩; replace BK836 := bb_ BK836.out hb; replace HB := stepB_ hb; (try clear hb); obtain ⟨z6_0, z6_1, z6_2, z6_3, f6_0, f6_1, f6_2, f6_3⟩ := cz4_ BK836.out))
 refine bodyPost_ret (results_cell_row rfl _ _ gb836 29 #[.int .u64 t838, .int .u64 t839, .int .u64 t840, .int .u64 t841] (0, 0) _ rfl (blkF_ BK836.out) Try.underlying29 rfl (by kernel_rfl)) rfl ?_
 exact ⟨rfl_, bel_⟩
end
section
def impl_node_halves.f (k : Nat) (a0_0 a0_1 : Int) : Option (Int × Int × Int × Int) := (impl_TreeSplit.f k (wrap64 (a0_1 - a0_0))).bind fun t282 => (some (a0_0, wrap64 (a0_0 + t282), wrap64 (a0_0 + t282), a0_1))
def impl_node_halves.T1 : Bool × List (List Nat × List Nat) := (true, [([], []), ([0], [0]), ([], []), ([2], [2]), ([], []), ([4], [4]), ([3, 5], [3, 5]), ([6], [6]), ([1, 7], [1, 7]), ([8, 7, 0, 1, 2, 3, 4, 5, 6, 7, 8], [8])])
def impl_node_halves.B1 : List Nat := [0, 1, 0, 4, 0, 16, 60, 124, 255, 511]
theorem impl_node_halves.tab1 : rtab .any (opsOf Try.f77 1) = impl_node_halves.T1 := by kernel_rfl
theorem impl_node_halves.bits1 : waitsOk impl_node_halves.T1.2 impl_node_halves.B1 = true := by kernel_rfl
def impl_node_halves.T2 : Bool × List (List Nat × List Nat) := (true, [([], []), ([0], [0]), ([], []), ([1, 2], [1, 2]), ([], []), ([], []), ([5], [5]), ([4, 6], [4, 6]), ([3, 0, 1, 2, 3], [3]), ([7, 8, 0, 1, 2, 3, 4, 5, 6, 7, 8], [7])])
def impl_node_halves.B2 : List Nat := [0, 1, 0, 7, 0, 0, 32, 112, 15, 511]
theorem impl_node_halves.tab2 : rtab .any (opsOf Try.f77 2) = impl_node_halves.T2 := by kernel_rfl
theorem impl_node_halves.bits2 : waitsOk impl_node_halves.T2.2 impl_node_halves.B2 = true := by kernel_rfl
theorem impl_node_halves.calls (k : Nat) (a0_0 a0_1 : Int) (r1 r2 : Int) (r3 r4 : Int) (w : World) (h : impl_node_halves.f k a0_0 a0_1 = some (r1, r2, r3, r4)) :
  Calls Try.prog 77 #[.agg #[.int .i64 a0_0, .int .i64 a0_1]] w fun e w' => e = .returned (.tuple #[.agg #[.int .i64 r1, .int .i64 r2], .agg #[.int .i64 r3, .int .i64 r4]]) ∧ Below w.heap.size w w' := by
 have hu100 := Try.underlying100
 have HB := a_ (Below.refl w.heap.size w)
 have H := h
 unfold impl_node_halves.f at H
 clear h
 obtain ⟨t282, A2, H⟩ := bnd_ H
 simp only [Option.some.injEq, Prod.mk.injEq] at H
 obtain ⟨rfl, rfl, rfl, rfl⟩ := H
 go_enter Try.func77, Try.ntmps77
 try go_wp2_with (first | ((with_reducible refine gate_dst (N := 1) rfl ?_); refine boxE_ (cs := #[.int .i64 a0_0, .int .i64 a0_1]) (t := 100) ?_; intro gb279 hg w3 hbox hb; have BK279 := a_ (hbox); have GW279 := sizeB_ hg; replace HB := stepB_ hb; clear hb hbox hg) | ((with_reducible refine gate_dst (N := 2) rfl ?_); refine boxE_ (cs := #[.int .i64 0, .int .i64 0]) (t := 100) ?_; intro gb280 hg w4 hbox hb; have BK280 := a_ (hbox); have GW280 := sizeB_ hg; replace HB := stepB_ hb; obtain ⟨NB279_280, NB280_279⟩ := ne2_ BK279.out hg; replace BK279 := bb_ BK279.out hb; clear hb hbox hg) | ((with_reducible refine gate_dst (N := 3) rfl ?_); refine boxE_ (cs := #[.int .i64 0, .int .i64 0]) (t := 100) ?_; intro gb281 hg w5 hbox hb; have BK281 := a_ (hbox); have GW281 := sizeB_ hg; replace HB := stepB_ hb; obtain ⟨NB279_281, NB281_279⟩ := ne2_ BK279.out hg; replace BK279 := bb_ BK279.out hb; obtain ⟨NB280_281, NB281_280⟩ := ne2_ BK280.out hg; replace BK280 := bb_ BK280.out hb; clear hb hbox hg))
 replace BK279 := a_ (blk_drew BK279.out)
 replace BK280 := a_ (blk_drew BK280.out)
 replace BK281 := a_ (blk_drew BK281.out)
 replace HB := a_ (below_drew1 HB.out)
 refine start_ (n := 10) (S := fun w' => w'.cell? ⟨gb279, 0, none⟩ = some (.int .i64 a0_0) ∧ w'.cell? ⟨gb279, 1, none⟩ = some (.int .i64 a0_1)) (ds := []) #[false, false, false, false, false, false, false, false, false, false] (by kernel_rfl) rfl rfl (hc2_ BK279.out) (fun hHeld => ?_); refine with_tabW impl_node_halves.tab1 impl_node_halves.bits1 (fun HT HW_ => ?_)
 generalize w5.drew = w6 at BK279 BK280 BK281 HB hHeld ⊢
 refine pP_ 0 (some 5) (b_ 10 1) HT ?_
 refine pP_ 2 (some 7) (b_ 10 5) HT ?_
 refine pP_ 4 (some 9) (b_ 10 21) HT ?_
 refine takeP_ 1 (some 6) (b_ 10 23) HT HW_ hHeld ?_
 refine takeP_ 3 (some 8) (b_ 10 31) HT HW_ hHeld ?_
 refine takeP_ 5 (some 10) (b_ 10 63) HT HW_ hHeld ?_
 refine pP_ 6 (some 11) (b_ 10 127) HT ?_
 refine oneP_ 7 (some 12) (b_ 10 255) HT (fun K hK => ?_)
 refine goN_ Try.func109 #[.int .i64 (wrap64 (a0_1 - a0_0))] ?_
 with_reducible refine (impl_TreeSplit.calls k (wrap64 (a0_1 - a0_0)) t282 _ A2.out).mono ?_
 rintro e w' ⟨rfl, ⟨nd, rfl⟩⟩
 refine ⟨_, rfl, ?_⟩
 refine hK.out _ _ (hc2_ BK279.out) (fun hHeld => ?_)
 clear hK K
 refine normP_ (some 12) ?_
 refine pP_ 8 (some 13) (b_ 10 511) HT ?_
 refine pP_ 9 (some 4) (b_ 10 1023) HT ?_
 refine done_ (done_of HT.out (by kernel_rfl)) ?_
 try go_wp2
 (try (rw [drewN_self w6]; generalize hq_ : World.drewN w6 _ = w6; have n0_ : Aside0 (w6.heap[gb279]? = some (.cells #[.int .i64 a0_0, .int .i64 a0_1] 100 (0, 0))) := ⟨by rw [← hq_]; exact (blkU_ BK279.out)⟩; have n1_ : Aside0 (w6.heap[gb280]? = some (.cells #[.int .i64 0, .int .i64 0] 100 (0, 0))) := ⟨by rw [← hq_]; exact (blkU_ BK280.out)⟩; have n2_ : Aside0 (w6.heap[gb281]? = some (.cells #[.int .i64 0, .int .i64 0] 100 (0, 0))) := ⟨by rw [← hq_]; exact (blkU_ BK281.out)⟩; have n3_ : Aside0 (Below w.heap.size w w6) := ⟨by rw [← hq_]; exact bel_⟩; clear BK279 BK280 BK281 HB hq_; have BK279 := n0_; have BK280 := n1_; have BK281 := n2_; have HB := n3_; clear n0_ n1_ n2_ n3_))
 replace BK279 := a_ (blk_drew BK279.out)
 replace BK280 := a_ (blk_drew BK280.out)
 replace BK281 := a_ (blk_drew BK281.out)
 replace HB := a_ (below_drew1 HB.out)
 refine start_ (n := 10) (S := fun w' => w'.cell? ⟨gb279, 0, none⟩ = some (.int .i64 a0_0) ∧ w'.cell? ⟨gb279, 1, none⟩ = some (.int .i64 a0_1)) (ds := []) #[false, false, false, false, false, false, false, false, false, false] (by kernel_rfl) rfl rfl (hc2_ BK279.out) (fun hHeld => ?_); refine with_tabW impl_node_halves.tab2 impl_node_halves.bits2 (fun HT HW_ => ?_)
 generalize w6.drew = w7 at BK279 BK280 BK281 HB hHeld ⊢
 refine pP_ 0 (some 14) (b_ 10 1) HT ?_
 refine pP_ 2 (some 16) (b_ 10 5) HT ?_
 refine pP_ 4 (some 18) (b_ 10 21) HT ?_
 refine pP_ 5 (some 19) (b_ 10 53) HT ?_
 refine takeP_ 1 (some 15) (b_ 10 55) HT HW_ hHeld ?_
 refine pP_ 3 (some 17) (b_ 10 63) HT ?_
 refine takeP_ 6 (some 20) (b_ 10 127) HT HW_ hHeld ?_
 refine pP_ 7 (some 21) (b_ 10 255) HT ?_
 refine oneP_ 8 none (b_ 10 511) HT (fun K hK => ?_)
 have hs8 : w7.cell? ⟨gb280, 0, none⟩ = some (.int .i64 0) := (blk_cell BK280.out 0).trans rfl
 have hfs8 := blk_frozen BK280.out 0
 have hns8_0 := NB279_280.out
 have hns8_2 := NB281_280.out
 have hms8_0 := NB280_279.out
 have hms8_2 := NB280_281.out
 have hs9 : w7.cell? ⟨gb280, 1, none⟩ = some (.int .i64 0) := (blk_cell BK280.out 1).trans rfl
 have hfs9 := blk_frozen BK280.out 1
 have hns9_0 := NB279_280.out
 have hns9_2 := NB281_280.out
 have hms9_0 := NB280_279.out
 have hms9_2 := NB280_281.out
 refine skip_ (w1 := ?_) (by rfl) rfl ?_ ?_
 rotate_left
 ·go_simp
  rfl
 refine hK.out _ _ ⟨(cf2_ NB279_280.out hHeld.1), (cf2_ NB279_280.out hHeld.2)⟩ (fun hHeld => ?_)
 clear hK K
 refine oneP_ 9 none (b_ 10 1023) HT (fun K hK => ?_)
 have hs10 : w7.cell? ⟨gb281, 0, none⟩ = some (.int .i64 0) := (blk_cell BK281.out 0).trans rfl
 have hfs10 := blk_frozen BK281.out 0
 have hns10_0 := NB279_281.out
 have hns10_1 := NB280_281.out
 have hms10_0 := NB281_279.out
 have hms10_1 := NB281_280.out
 have hs11 : w7.cell? ⟨gb281, 1, none⟩ = some (.int .i64 0) := (blk_cell BK281.out 1).trans rfl
 have hfs11 := blk_frozen BK281.out 1
 have hns11_0 := NB279_281.out
 have hns11_1 := NB280_281.out
 have hms11_0 := NB281_279.out
 have hms11_1 := NB281_280.out
 refine skip_ (w1 := ?_) (by rfl) rfl ?_ ?_
 rotate_left
 ·go_simp
  rfl
 refine hK.out _ _ ⟨(cf2_ NB279_281.out hHeld.1), (cf2_ NB279_281.out hHeld.2)⟩ (fun hHeld => ?_)
 clear hK K
 refine done_ (done_of HT.out (by kernel_rfl)) ?_
 try go_wp2
 refine bodyPost_ret (results_cc rfl _ _ gb280 gb281 100 100 #[.int .i64 a0_0, .int .i64 (wrap64 (a0_0 + t282))] #[.int .i64 (wrap64 (a0_0 + t282)), .int .i64 a0_1] (0, 0) (0, 0) _ _ rfl (blkF_ BK280.out) Try.underlying100 rfl (by kernel_rfl) rfl (blkF_ BK281.out) Try.underlying100 rfl (by kernel_rfl)) rfl ?_
 exact ⟨rfl_, bel_⟩
end
section
def spec_l3Place.f (a0 a1 : Int) : Option (Bool) := (spec_l1In.f a0 1 256).bind fun t553 => (if t553 = true then ((spec_l1In.f a1 0 (wrap64 (a0 - 1))).bind fun t554 => (some t554)) else (some false))
theorem spec_l3Place.calls (a0 a1 : Int) (r : Bool) (w : World) (h : spec_l3Place.f a0 a1 = some r) :
  Calls Try.prog 79 #[.int .i64 a0, .int .i64 a1] w fun e w' => e = .returned (.bool r) ∧ Drawn0 w w' := by
 have H := h
 unfold spec_l3Place.f at H
 clear h
 obtain ⟨t553, A3, H⟩ := bnd_ H
 by_cases c4 : t553 = true
 ·subst c4
  rw [if_pos rfl] at H
  obtain ⟨t554, A5, H⟩ := bnd_ H
  obtain rfl := Option.some.inj H
  go_enter Try.func79, Try.ntmps79
  go_wp2_with (first | (refine gcL_ 94 (some 6) Try.func94 #[.int .i64 a0, .int .i64 1, .int .i64 256] ?_; (with_reducible refine (spec_l1In.calls a0 1 256 true _ A3.out).mono ?_); rintro e w' ⟨rfl, ⟨nd, rfl⟩⟩; refine ⟨_, rfl, ?_⟩) | (go_at_call 94; (with_reducible refine (spec_l1In.calls a1 0 (wrap64 (a0 - 1)) t554 _ A5.out).mono ?_); rintro e w' ⟨rfl, ⟨nd, rfl⟩⟩))
  go_ret
  exact ⟨rl_, dr_⟩
 ·replace c4 := Bool.eq_false_iff.mpr c4
  subst c4
  rw [if_neg (show ¬ (false = true) by decide)] at H
  obtain rfl := Option.some.inj H
  go_enter Try.func79, Try.ntmps79
  go_wp2_with (first | (refine gcL_ 94 (some 6) Try.func94 #[.int .i64 a0, .int .i64 1, .int .i64 256] ?_; (with_reducible refine (spec_l1In.calls a0 1 256 false _ A3.out).mono ?_); rintro e w' ⟨rfl, ⟨nd, rfl⟩⟩; refine ⟨_, rfl, ?_⟩))
  go_ret
  exact ⟨rl_, dr_⟩
end
section
def spec_PathLen.l0 : Nat → Int → Int → Int → Option (Int)
 | 0, _, _, _ => none
 | k + 1, x0, x1, x5 => if x0 > 1 then ((spec_TreeSplit.f k x0).bind fun t556 => (if x1 < t556 then (spec_PathLen.l0 k t556 x1 (wrap64 (x5 + 1))) else (spec_PathLen.l0 k (wrap64 (x0 - t556)) (wrap64 (x1 - t556)) (wrap64 (x5 + 1))))) else (some x5)
def spec_PathLen.f (k : Nat) (a0 a1 : Int) : Option (Int) := (spec_l3Place.f a0 a1).bind fun t555 => (if t555 = true then (spec_PathLen.l0 k a0 a1 0) else (some (-1)))
theorem spec_PathLen.calls (k : Nat) (a0 a1 r : Int) (w : World) (h : spec_PathLen.f k a0 a1 = some r) :
  Calls Try.prog 81 #[.int .i64 a0, .int .i64 a1] w fun e w' => e = .returned (.int .i64 r) ∧ Drawn0 w w' := by
 have H := h
 unfold spec_PathLen.f at H
 clear h
 obtain ⟨t555, A3, H⟩ := bnd_ H
 by_cases c4 : t555 = true
 ·subst c4
  rw [if_pos rfl] at H
  have H' := Aside0.mk H
  clear H
  go_enter Try.func81, Try.ntmps81
  go_wp2_with (first | (refine gcL_ 79 (some 9) Try.func79 #[.int .i64 a0, .int .i64 a1] ?_; (with_reducible refine (spec_l3Place.calls a0 a1 true _ A3.out).mono ?_); rintro e w' ⟨rfl, ⟨nd, rfl⟩⟩; refine ⟨_, rfl, ?_⟩))
  go_loopg [0, 1, 5] k (fun kq v0 v1 v5 w' => ∃ (x0_1 x1_1 x5_1 : Int), v0 = .int .i64 x0_1 ∧ v1 = .int .i64 x1_1 ∧ v5 = .int .i64 x5_1 ∧ Aside0 (spec_PathLen.l0 kq x0_1 x1_1 x5_1 = some r) ∧ Aside0 (kq ≤ k) ∧ Drawn0 w w')
  case atStart => exact ⟨(a0), (a1), (0), rl_, rl_, rl_, H', ⟨Nat.le_refl _⟩, by repeat (first | exact Drawn0.refl _ | apply Drawn0.step)⟩
  case round =>
   clear H'
   (try clear c4)
   obtain ⟨x0_1, x1_1, x5_1, rfl, rfl, rfl, HA, HK1, ⟨m1, rfl⟩⟩ := hrel
   cases gk with
   | zero => exact absurd HA.out (by simp [spec_PathLen.l0])
   | succ k1 =>
    have H := HA.out
    clear HA
    simp only [spec_PathLen.l0] at H
    by_cases c5 : x0_1 > 1
    ·rw [if_pos c5] at H
     have c5b0 : decide (1 < x0_1) = true := decide_eq_true c5
     clear c5
     obtain ⟨t556, A6, H⟩ := bnd_ H
     by_cases c7 : x1_1 < t556
     ·rw [if_pos c7] at H
      have c7b0 := decide_eq_true c7
      clear c7
      have H' := Aside0.mk H
      clear H
      go_wp2_with (first | (refine gcL_ 88 (some 14) Try.func88 #[.int .i64 x0_1] ?_; (with_reducible refine (spec_TreeSplit.calls k1 x0_1 t556 _ A6.out).mono ?_); rintro e w' ⟨rfl, ⟨nd, rfl⟩⟩; refine ⟨_, rfl, ?_⟩))
      go_roundg k1
      case measure => have := HK1.out; omega
      case rel => exact ⟨(t556), (x1_1), (wrap64 (x5_1 + 1)), rl_, rl_, rl_, H', ⟨by have := HK1.out; omega⟩, by repeat (first | exact Drawn0.refl _ | apply Drawn0.step)⟩
     ·rw [if_neg c7] at H
      have c7b0 := decide_eq_false c7
      clear c7
      have H' := Aside0.mk H
      clear H
      go_wp2_with (first | (refine gcL_ 88 (some 14) Try.func88 #[.int .i64 x0_1] ?_; (with_reducible refine (spec_TreeSplit.calls k1 x0_1 t556 _ A6.out).mono ?_); rintro e w' ⟨rfl, ⟨nd, rfl⟩⟩; refine ⟨_, rfl, ?_⟩))
      go_roundg k1
      case measure => have := HK1.out; omega
      case rel => exact ⟨(wrap64 (x0_1 - t556)), (wrap64 (x1_1 - t556)), (wrap64 (x5_1 + 1)), rl_, rl_, rl_, H', ⟨by have := HK1.out; omega⟩, by repeat (first | exact Drawn0.refl _ | apply Drawn0.step)⟩
    ·rw [if_neg c5] at H
     have c5b0 : decide (1 < x0_1) = false := decide_eq_false c5
     clear c5
     obtain rfl := Option.some.inj H
     go_wp2
     go_ret
     exact ⟨rl_, dr_⟩
 ·replace c4 := Bool.eq_false_iff.mpr c4
  subst c4
  rw [if_neg (show ¬ (false = true) by decide)] at H
  obtain rfl := Option.some.inj H
  go_enter Try.func81, Try.ntmps81
  go_wp2_with (first | (refine gcL_ 79 (some 9) Try.func79 #[.int .i64 a0, .int .i64 a1] ?_; (with_reducible refine (spec_l3Place.calls a0 a1 false _ A3.out).mono ?_); rintro e w' ⟨rfl, ⟨nd, rfl⟩⟩; refine ⟨_, rfl, ?_⟩))
  go_ret
  exact ⟨rl_, dr_⟩
end
section
def impl_way.l0 : Nat → Int → List (S100) → Int → Int → Option ((List (S100)))
 | 0, _, _, _, _ => none
 | k + 1, x1, x5, x765000, x765001 => if (wrap64 (x765001 - x765000)) > 1 then (if x5.length < 8796093022208 then ((some (x5 ++ [(⟨x765000, x765001⟩ : S100)] : List (S100))).bind fun y765 => ((impl_node_halves.f k x765000 x765001).bind fun bt768 => (if x1 < bt768.2.1 then (impl_way.l0 k x1 y765 bt768.1 bt768.2.1) else (impl_way.l0 k x1 y765 bt768.2.2.1 bt768.2.2.2)))) else (none)) else (some x5)
def impl_way.f (k : Nat) (a0 a1 : Int) : Option ((List (S100))) := impl_way.l0 k a1 ([] : List (S100)) 0 a0
theorem impl_way.calls (k : Nat) (a0 a1 : Int) (r : List (S100)) (w : World) (h : impl_way.f k a0 a1 = some r) :
  Calls Try.prog 76 #[.int .i64 a0, .int .i64 a1] w fun e w' => ∃ v0_ : Value, e = .returned (v0_) ∧ Kd.R k100 100 w' w.heap.size (fun _ => True) v0_ r ∧ Below w.heap.size w w' := by
 have hu100 := Try.underlying100
 have HB := a_ (Below.refl w.heap.size w)
 have H := h
 unfold impl_way.f at H
 clear h
 have H' := Aside0.mk H
 clear H
 go_enter Try.func76, Try.ntmps76
 go_wp2_with (first | ((with_reducible refine gate_dst (N := 6) rfl ?_); refine boxE_ (cs := #[.int .i64 0, .int .i64 0]) (t := 100) ?_; intro gb764 hg w3 hbox hb; have BK764 := a_ (hbox); have GW764 := sizeB_ hg; replace HB := stepB_ hb; clear hb hbox hg; obtain ⟨z4_0, z4_1, f4_0, f4_1⟩ := cz2_ BK764.out))
 go_loopg [5] k (fun kq v5 w' => ∃ (x5_1 : List (S100)) (x765000_1 x765001_1 : Int), Aside0 (impl_way.l0 kq a1 x5_1 x765000_1 x765001_1 = some r) ∧ Aside0 (kq ≤ k) ∧ Aside0 (Kd.R k100 100 w' w.heap.size (fun k_ => k_ ≠ gb764) v5 x5_1) ∧ Aside0 (w'.heap[gb764]? = some (.cells #[.int .i64 x765000_1, .int .i64 x765001_1] 100 (0, 0))) ∧ Aside0 (Below w.heap.size w w'))
 case atStart => exact ⟨(([] : List (S100))), (0), (a0), H', ⟨Nat.le_refl _⟩, ⟨by first | exact Kd.R_nil _ _ _ _ _ | exact Kd.N_nil _ _ _ _ _ | exact Kd.V_nil _ _ _ _ _ | exact Kd.Q_nil _ _ _ _ _ | exact Kd.S_nil _ _ _ _ _⟩, ⟨blkF_ BK764.out⟩, ⟨bel_⟩⟩
 case round =>
  clear H'
  (try clear z4_0 z4_1); (try clear f4_0 f4_1)
  obtain ⟨x5_1, x765000_1, x765001_1, HA, HK1, HO_5, BK764, HB⟩ := hrel
  cases gk with
  | zero => exact absurd HA.out (by simp [impl_way.l0])
  | succ k1 =>
   have H := HA.out
   clear HA
   simp only [impl_way.l0] at H
   by_cases c5 : (wrap64 (x765001_1 - x765000_1)) > 1
   ·rw [if_pos c5] at H
    have c5b0 : decide (1 < (wrap64 (x765001_1 - x765000_1))) = true := decide_eq_true c5
    clear c5
    by_cases c6 : x5_1.length < 8796093022208
    ·rw [if_pos c6] at H
     have LMc6 := Aside0.mk c6
     clear c6
     obtain ⟨y765, hy765⟩ : ∃ y_ : List (S100), y_ = (x5_1 ++ [(⟨x765000_1, x765001_1⟩ : S100)]) := ⟨_, rfl⟩
     replace H : ((impl_node_halves.f k1 x765000_1 x765001_1).bind fun bt768 => (if a1 < bt768.2.1 then (impl_way.l0 k1 a1 y765 bt768.1 bt768.2.1) else (impl_way.l0 k1 a1 y765 bt768.2.2.1 bt768.2.2.2))) = some r := rpl_ hy765 H
     have Ny765 := Aside0.mk hy765
     clear hy765
     obtain ⟨⟨t768, t769, t770, t771⟩, A7, H⟩ := bnd_ H
     dsimp only at H
     by_cases c8 : a1 < t769
     ·rw [if_pos c8] at H
      have c8b0 := decide_eq_true c8
      clear c8
      have H' := Aside0.mk H
      clear H
      obtain ⟨z9_0, z9_1, f9_0, f9_1⟩ := cz2_ BK764.out
      go_wp2_with (first | ((with_reducible refine gate_builtin (b := .append) (xs := #[.tmp 17, .tmp 19]) rfl ?_); at_builtin; refine Kd.R_append k100 (w0 := w) w.heap.size rfl (.tmp 17) (.tmp 19) 96 100 (.agg #[(.int .i64 0), (.int .i64 0)]) 16 rfl Try.underlying96 info100 rfl (by decide) (by omega) u5 x5_1 (⟨x765000_1, x765001_1⟩ : S100) [.int .i64 x765000_1, .int .i64 x765001_1] (fun k_ => k_ ≠ gb764) (fun _ => False) rfl rfl ?aP (fun _ hk => hk.elim) ?aF ?aO ?aB ?aS ?aL ?_; (case aP => exact k100_mkM _ _ _ (⟨x765000_1, x765001_1⟩ : S100)); (case aB => exact bel_); (case aF => exact (fun k_ hk => Kd.freshB (g := gb764) (o := .cells #[.int .i64 x765000_1, .int .i64 x765001_1] 100 (0, 0)) (blkU_ BK764.out) k_ hk)); (case aO => exact (kdU_ HO_5.out)); (case aS => exact (below_size bel_)); (case aL => have := LMc6.out; omega); intro v766 w10 ho hb hg hat; rw [← Ny765.out] at ho; replace BK764 := a_ (blk_grown (g := gb764) (o := .cells #[.int .i64 x765000_1, .int .i64 x765001_1] 100 (0, 0)) (blkU_ BK764.out) hg (Kd.R_away HO_5.out (fun _ hk => hk))); replace HB := a_ (hb); have HO767 := a_ (ho); clear HO_5; clear ho hb hg hat; obtain ⟨z11_0, z11_1, f11_0, f11_1⟩ := cz2_ BK764.out) | (refine gcL_ 77 (some 23) Try.func77 #[.agg #[.int .i64 x765000_1, .int .i64 x765001_1]] ?_; (with_reducible refine (impl_node_halves.calls k1 x765000_1 x765001_1 t768 t769 t770 t771 _ A7.out).mono ?_); rintro e w12 ⟨rfl, hb⟩; refine ⟨_, rfl, ?_⟩; replace HO767 := rb_ HO767.out hb; replace BK764 := bb_ BK764.out hb; replace HB := stepB_ hb; (try clear hb); (try clear hk)) | ((with_reducible refine gate_dst (N := 7) rfl ?_); refine boxE_ (cs := #[.int .i64 0, .int .i64 0]) (t := 100) ?_; intro gb772 hg w13 hbox hb; replace HO767 := a_ (Kd.R_below (Kd.R_elderB (kdU_ HO767.out) gb772 (Nat.le_of_eq hg.symm)) hb); have BK772 := a_ (hbox); have GW772 := sizeB_ hg; replace HB := stepB_ hb; obtain ⟨NB764_772, NB772_764⟩ := ne2_ BK764.out hg; replace BK764 := bb_ BK764.out hb; clear hb hbox hg) | ((with_reducible refine gate_dst (N := 8) rfl ?_); refine boxE_ (cs := #[.int .i64 0, .int .i64 0]) (t := 100) ?_; intro gb773 hg w14 hbox hb; replace HO767 := a_ (Kd.R_below (Kd.R_elderB (kdU_ HO767.out) gb773 (Nat.le_of_eq hg.symm)) hb); have BK773 := a_ (hbox); have GW773 := sizeB_ hg; replace HB := stepB_ hb; obtain ⟨NB764_773, NB773_764⟩ := ne2_ BK764.out hg; replace BK764 := bb_ BK764.out hb; obtain ⟨NB772_773, NB773_772⟩ := ne2_ BK772.out hg; replace BK772 := bb_ BK772.out hb; clear hb hbox hg; have hnb15 := NB772_764.out; have hnc15 := NB764_772.out; have hnb16 := NB772_773.out; have hnc16 := NB773_772.out; obtain ⟨z17_0, z17_1, f17_0, f17_1⟩ := cz2_ BK772.out; have hnb18 := NB773_764.out; have hnc18 := NB764_773.out; obtain ⟨z19_0, z19_1, f19_0, f19_1⟩ := cz2_ BK773.out; obtain ⟨z20_0, z20_1, f20_0, f20_1⟩ := cz2_ BK764.out))
      go_roundg k1
      case measure => have := HK1.out; omega
      case rel => exact ⟨(y765), (t768), (t769), H', ⟨by have := HK1.out; omega⟩, ⟨by (with_reducible repeat (first | apply Kd.R_alloc | apply Kd.R_drewN | apply Kd.R_drew)); exact Kd.R_mono (Kd.R_far (p := ⟨gb764, 1, none⟩) (Kd.R_far (p := ⟨gb764, 0, none⟩) (Kd.R_far (p := ⟨gb764, 1, none⟩) (Kd.R_far (p := ⟨gb764, 0, none⟩) (Kd.R_far (p := ⟨gb773, 1, none⟩) (Kd.R_far (p := ⟨gb773, 0, none⟩) (Kd.R_far (p := ⟨gb772, 1, none⟩) (Kd.R_far (p := ⟨gb772, 0, none⟩) (Kd.R_mono (Kd.R_mono (Kd.R_mono HO767.out (fun k_ hk => (⟨hk, hk.1.2⟩ : _ ∧ k_ ≠ gb772))) (fun k_ hk => (⟨hk, hk.1.2⟩ : _ ∧ k_ ≠ gb773))) (fun k_ hk => (⟨hk, hk.1.1.1.1⟩ : _ ∧ k_ ≠ gb764))) (fun _ hk => hk.1.1.2) (.int .i64 t768)) (fun _ hk => hk.1.1.2) (.int .i64 t769)) (fun _ hk => hk.1.2) (.int .i64 t770)) (fun _ hk => hk.1.2) (.int .i64 t771)) (fun _ hk => hk.2) (.int .i64 t770)) (fun _ hk => hk.2) (.int .i64 t771)) (fun _ hk => hk.2) (.int .i64 t768)) (fun _ hk => hk.2) (.int .i64 t769)) (fun _ hk => hk.1.1.1.1.1)⟩, ⟨blkF_ BK764.out⟩, ⟨bel_⟩⟩
     ·rw [if_neg c8] at H
      have c8b0 := decide_eq_false c8
      clear c8
      have H' := Aside0.mk H
      clear H
      obtain ⟨z21_0, z21_1, f21_0, f21_1⟩ := cz2_ BK764.out
      go_wp2_with (first | ((with_reducible refine gate_builtin (b := .append) (xs := #[.tmp 17, .tmp 19]) rfl ?_); at_builtin; refine Kd.R_append k100 (w0 := w) w.heap.size rfl (.tmp 17) (.tmp 19) 96 100 (.agg #[(.int .i64 0), (.int .i64 0)]) 16 rfl Try.underlying96 info100 rfl (by decide) (by omega) u5 x5_1 (⟨x765000_1, x765001_1⟩ : S100) [.int .i64 x765000_1, .int .i64 x765001_1] (fun k_ => k_ ≠ gb764) (fun _ => False) rfl rfl ?aP (fun _ hk => hk.elim) ?aF ?aO ?aB ?aS ?aL ?_; (case aP => exact k100_mkM _ _ _ (⟨x765000_1, x765001_1⟩ : S100)); (case aB => exact bel_); (case aF => exact (fun k_ hk => Kd.freshB (g := gb764) (o := .cells #[.int .i64 x765000_1, .int .i64 x765001_1] 100 (0, 0)) (blkU_ BK764.out) k_ hk)); (case aO => exact (kdU_ HO_5.out)); (case aS => exact (below_size bel_)); (case aL => have := LMc6.out; omega); intro v766 w22 ho hb hg hat; rw [← Ny765.out] at ho; replace BK764 := a_ (blk_grown (g := gb764) (o := .cells #[.int .i64 x765000_1, .int .i64 x765001_1] 100 (0, 0)) (blkU_ BK764.out) hg (Kd.R_away HO_5.out (fun _ hk => hk))); replace HB := a_ (hb); have HO767 := a_ (ho); clear HO_5; clear ho hb hg hat; obtain ⟨z23_0, z23_1, f23_0, f23_1⟩ := cz2_ BK764.out) | (refine gcL_ 77 (some 23) Try.func77 #[.agg #[.int .i64 x765000_1, .int .i64 x765001_1]] ?_; (with_reducible refine (impl_node_halves.calls k1 x765000_1 x765001_1 t768 t769 t770 t771 _ A7.out).mono ?_); rintro e w24 ⟨rfl, hb⟩; refine ⟨_, rfl, ?_⟩; replace HO767 := rb_ HO767.out hb; replace BK764 := bb_ BK764.out hb; replace HB := stepB_ hb; (try clear hb); (try clear hk)) | ((with_reducible refine gate_dst (N := 7) rfl ?_); refine boxE_ (cs := #[.int .i64 0, .int .i64 0]) (t := 100) ?_; intro gb772 hg w25 hbox hb; replace HO767 := a_ (Kd.R_below (Kd.R_elderB (kdU_ HO767.out) gb772 (Nat.le_of_eq hg.symm)) hb); have BK772 := a_ (hbox); have GW772 := sizeB_ hg; replace HB := stepB_ hb; obtain ⟨NB764_772, NB772_764⟩ := ne2_ BK764.out hg; replace BK764 := bb_ BK764.out hb; clear hb hbox hg) | ((with_reducible refine gate_dst (N := 8) rfl ?_); refine boxE_ (cs := #[.int .i64 0, .int .i64 0]) (t := 100) ?_; intro gb773 hg w26 hbox hb; replace HO767 := a_ (Kd.R_below (Kd.R_elderB (kdU_ HO767.out) gb773 (Nat.le_of_eq hg.symm)) hb); have BK773 := a_ (hbox); have GW773 := sizeB_ hg; replace HB := stepB_ hb; obtain ⟨NB764_773, NB773_764⟩ := ne2_ BK764.out hg; replace BK764 := bb_ BK764.out hb; obtain ⟨NB772_773, NB773_772⟩ := ne2_ BK772.out hg; replace BK772 := bb_ BK772.out hb; clear hb hbox hg; have hnb27 := NB772_764.out; have hnc27 := NB764_772.out; have hnb28 := NB772_773.out; have hnc28 := NB773_772.out; obtain ⟨z29_0, z29_1, f29_0, f29_1⟩ := cz2_ BK772.out; have hnb30 := NB773_764.out; have hnc30 := NB764_773.out; obtain ⟨z31_0, z31_1, f31_0, f31_1⟩ := cz2_ BK773.out; obtain ⟨z32_0, z32_1, f32_0, f32_1⟩ := cz2_ BK764.out))
      go_roundg k1
      case measure => have := HK1.out; omega
      case rel => exact ⟨(y765), (t770), (t771), H', ⟨by have := HK1.out; omega⟩, ⟨by (with_reducible repeat (first | apply Kd.R_alloc | apply Kd.R_drewN | apply Kd.R_drew)); exact Kd.R_mono (Kd.R_far (p := ⟨gb764, 1, none⟩) (Kd.R_far (p := ⟨gb764, 0, none⟩) (Kd.R_far (p := ⟨gb773, 1, none⟩) (Kd.R_far (p := ⟨gb773, 0, none⟩) (Kd.R_far (p := ⟨gb772, 1, none⟩) (Kd.R_far (p := ⟨gb772, 0, none⟩) (Kd.R_mono (Kd.R_mono (Kd.R_mono HO767.out (fun k_ hk => (⟨hk, hk.1.2⟩ : _ ∧ k_ ≠ gb772))) (fun k_ hk => (⟨hk, hk.1.2⟩ : _ ∧ k_ ≠ gb773))) (fun k_ hk => (⟨hk, hk.1.1.1.1⟩ : _ ∧ k_ ≠ gb764))) (fun _ hk => hk.1.1.2) (.int .i64 t768)) (fun _ hk => hk.1.1.2) (.int .i64 t769)) (fun _ hk => hk.1.2) (.int .i64 t770)) (fun _ hk => hk.1.2) (.int .i64 t771)) (fun _ hk => hk.2) (.int .i64 t770)) (fun _ hk => hk.2) (.int .i64 t771)) (fun _ hk => hk.1.1.1.1.1)⟩, ⟨blkF_ BK764.out⟩, ⟨bel_⟩⟩
    ·rw [if_neg c6] at H
     exact absurd H (by simp)
   ·rw [if_neg c5] at H
    have c5b0 : decide (1 < (wrap64 (x765001_1 - x765000_1))) = false := decide_eq_false c5
    clear c5
    obtain rfl := Option.some.inj H
    obtain ⟨z33_0, z33_1, f33_0, f33_1⟩ := cz2_ BK764.out
    go_wp2
    go_ret
    exact ⟨_, rfl_, by (with_reducible repeat (first | apply Kd.R_alloc | apply Kd.R_drewN | apply Kd.R_drew)); exact Kd.R_mono HO_5.out (fun _ hk => trivial), bel_⟩
end
section
def impl_PathLen.f (k : Nat) (a0 a1 : Int) : Option (Int) := (impl_in.f a0 1 256).bind fun t774 => (if t774 = true then ((impl_in.f a1 0 (wrap64 (a0 - 1))).bind fun t775 => (if t775 = true then ((impl_way.f k a0 a1).bind fun t776 => (some (t776.length : Int))) else (some (-1)))) else (some (-1)))
theorem impl_PathLen.calls (k : Nat) (a0 a1 r : Int) (w : World) (h : impl_PathLen.f k a0 a1 = some r) :
  Calls Try.prog 78 #[.int .i64 a0, .int .i64 a1] w fun e w' => e = .returned (.int .i64 r) ∧ Below w.heap.size w w' := by
 have HB := a_ (Below.refl w.heap.size w)
 have H := h
 unfold impl_PathLen.f at H
 clear h
 obtain ⟨t774, A3, H⟩ := bnd_ H
 by_cases c4 : t774 = true
 ·subst c4
  rw [if_pos rfl] at H
  obtain ⟨t775, A5, H⟩ := bnd_ H
  by_cases c6 : t775 = true
  ·subst c6
   rw [if_pos rfl] at H
   obtain ⟨t776, A7, H⟩ := bnd_ H
   obtain rfl := Option.some.inj H
   go_enter Try.func78, Try.ntmps78
   go_wp2_with (first | (refine gcL_ 75 (some 6) Try.func75 #[.int .i64 a0, .int .i64 1, .int .i64 256] ?_; (with_reducible refine (impl_in.calls a0 1 256 true _ A3.out).mono ?_); rintro e w' ⟨rfl, ⟨nd, rfl⟩⟩; refine ⟨_, rfl, ?_⟩) | (go_at_call 75; (with_reducible refine (impl_in.calls a1 0 (wrap64 (a0 - 1)) true _ A5.out).mono ?_); rintro e w' ⟨rfl, ⟨nd, rfl⟩⟩) | (refine gcL_ 76 (some 17) Try.func76 #[.int .i64 a0, .int .i64 a1] ?_; (with_reducible refine (impl_way.calls k a0 a1 t776 _ A7.out).mono ?_); rintro e w8 ⟨v777, rfl, ho0, hb⟩; refine ⟨_, rfl, ?_⟩; have HO778 := a_ (Kd.R_lower ho0 (below_size bel_)); replace HB := stepB_ hb; (try clear hb); (try clear ho0); obtain ⟨Ao9, co9, eo9⟩ := Kd.R_slice HO778.out; subst eo9))
   go_ret
   exact ⟨rfl_, bel_⟩
  ·replace c6 := Bool.eq_false_iff.mpr c6
   subst c6
   rw [if_neg (show ¬ (false = true) by decide)] at H
   obtain rfl := Option.some.inj H
   go_enter Try.func78, Try.ntmps78
   go_wp2_with (first | (refine gcL_ 75 (some 6) Try.func75 #[.int .i64 a0, .int .i64 1, .int .i64 256] ?_; (with_reducible refine (impl_in.calls a0 1 256 true _ A3.out).mono ?_); rintro e w' ⟨rfl, ⟨nd, rfl⟩⟩; refine ⟨_, rfl, ?_⟩) | (go_at_call 75; (with_reducible refine (impl_in.calls a1 0 (wrap64 (a0 - 1)) false _ A5.out).mono ?_); rintro e w' ⟨rfl, ⟨nd, rfl⟩⟩))
   go_ret
   exact ⟨rfl_, bel_⟩
 ·replace c4 := Bool.eq_false_iff.mpr c4
  subst c4
  rw [if_neg (show ¬ (false = true) by decide)] at H
  obtain rfl := Option.some.inj H
  go_enter Try.func78, Try.ntmps78
  go_wp2_with (first | (refine gcL_ 75 (some 6) Try.func75 #[.int .i64 a0, .int .i64 1, .int .i64 256] ?_; (with_reducible refine (impl_in.calls a0 1 256 false _ A3.out).mono ?_); rintro e w' ⟨rfl, ⟨nd, rfl⟩⟩; refine ⟨_, rfl, ?_⟩))
  go_ret
  exact ⟨rfl_, bel_⟩
end
section
def laws_toPoint.f (a0_0 a0_1 : Int) (a0_2 a0_3 a0_4 : Int) : Option (Int × Int × Int × Int × Int) := (laws_toDigest.f a0_1 a0_2 a0_3 a0_4).bind fun bt239 => (some (a0_0, bt239.1, bt239.2.1, bt239.2.2.1, bt239.2.2.2))
theorem laws_toPoint.calls (a0_0 a0_1 : Int) (a0_2 a0_3 : Int) (a0_4 r1 : Int) (r2 r3 : Int) (r4 r5 : Int) (w : World) (h : laws_toPoint.f a0_0 a0_1 a0_2 a0_3 a0_4 = some (r1, r2, r3, r4, r5)) :
  Calls Try.prog 12 #[.agg #[.int .i64 a0_0, .int .u64 a0_1, .int .u64 a0_2, .int .u64 a0_3, .int .u64 a0_4]] w fun e w' => e = .returned (.agg #[.int .i64 r1, .int .u64 r2, .int .u64 r3, .int .u64 r4, .int .u64 r5]) ∧ Below w.heap.size w w' := by
 have hu26 := Try.underlying26
 have hu31 := Try.underlying31
 have hu24 := Try.underlying24
 have hu29 := Try.underlying29
 have HB := a_ (Below.refl w.heap.size w)
 have H := h
 unfold laws_toPoint.f at H
 clear h
 obtain ⟨⟨t239, t240, t241, t242⟩, A2, H⟩ := bnd_ H
 dsimp only at H
 simp only [Option.some.injEq, Prod.mk.injEq] at H
 obtain ⟨rfl, rfl, rfl, rfl, rfl⟩ := H
 go_enter Try.func12, Try.ntmps12
 go_wp2_with (first | ((with_reducible refine gate_dst (N := 1) rfl ?_); refine boxE_ (cs := #[.int .i64 a0_0, .int .u64 a0_1, .int .u64 a0_2, .int .u64 a0_3, .int .u64 a0_4]) (t := 26) ?_; intro gb236 hg w3 hbox hb; have BK236 := a_ (hbox); have GW236 := sizeB_ hg; replace HB := stepB_ hb; clear hb hbox hg) | ((with_reducible refine gate_dst (N := 2) rfl ?_); refine boxE_ (cs := #[.int .i64 0, .int .u64 0, .int .u64 0, .int .u64 0, .int .u64 0]) (t := 31) ?_; intro gb237 hg w4 hbox hb; have BK237 := a_ (hbox); have GW237 := sizeB_ hg; replace HB := stepB_ hb; obtain ⟨NB236_237, NB237_236⟩ := ne2_ BK236.out hg; replace BK236 := bb_ BK236.out hb; clear hb hbox hg) | ((with_reducible refine gate_dst (N := 3) rfl ?_); refine boxE_ (cs := #[.int .i64 0, .int .u64 0, .int .u64 0, .int .u64 0, .int .u64 0]) (t := 31) ?_; intro gb238 hg w5 hbox hb; have BK238 := a_ (hbox); have GW238 := sizeB_ hg; replace HB := stepB_ hb; obtain ⟨NB236_238, NB238_236⟩ := ne2_ BK236.out hg; replace BK236 := bb_ BK236.out hb; obtain ⟨NB237_238, NB238_237⟩ := ne2_ BK237.out hg; replace BK237 := bb_ BK237.out hb; clear hb hbox hg; have hnb6 := NB236_237.out; have hnc6 := NB237_236.out; have hnb7 := NB236_238.out; have hnc7 := NB238_236.out; obtain ⟨z8_0, z8_1, z8_2, z8_3, z8_4, f8_0, f8_1, f8_2, f8_3, f8_4⟩ := cz5_ BK236.out; have hnb9 := NB238_237.out; have hnc9 := NB237_238.out; obtain ⟨z10_0, z10_1, z10_2, z10_3, z10_4, f10_0, f10_1, f10_2, f10_3, f10_4⟩ := cz5_ BK238.out) | (refine gcL_ 44 (some 9) Try.func44 #[.agg #[.int .u64 a0_1, .int .u64 a0_2, .int .u64 a0_3, .int .u64 a0_4]] ?_; (with_reducible refine (laws_toDigest.calls a0_1 a0_2 a0_3 a0_4 t239 t240 t241 t242 _ A2.out).mono ?_); rintro e w11 ⟨rfl, hb⟩; refine ⟨_, rfl, ?_⟩; replace BK236 := bb_ BK236.out hb; replace BK237 := bb_ BK237.out hb; replace BK238 := blkPB_ (cs := #[.int .i64 a0_0, .int .u64 0, .int .u64 0, .int .u64 0, .int .u64 0]) BK238.out hb; replace HB := stepB_ hb; (try clear hb); obtain ⟨z12_0, z12_1, z12_2, z12_3, z12_4, f12_0, f12_1, f12_2, f12_3, f12_4⟩ := cz5_ BK238.out; obtain ⟨z13_0, z13_1, z13_2, z13_3, z13_4, f13_0, f13_1, f13_2, f13_3, f13_4⟩ := cz5_ BK237.out))
 refine bodyPost_ret (results_cell_row rfl _ _ gb237 31 #[.int .i64 a0_0, .int .u64 t239, .int .u64 t240, .int .u64 t241, .int .u64 t242] (0, 0) _ rfl (blkF_ BK237.out) Try.underlying31 rfl (by kernel_rfl)) rfl ?_
 exact ⟨rfl_, bel_⟩
end
section
def laws_eqPoint.f (a0_0 a0_1 : Int) (a0_2 a0_3 : Int) (a0_4 a1_0 : Int) (a1_1 a1_2 : Int) (a1_3 a1_4 : Int) : Option (Bool) := if a0_0 = a1_0 then ((laws_eqDigest.f a0_1 a0_2 a0_3 a0_4 a1_1 a1_2 a1_3 a1_4).bind fun t505 => (if t505 = true then (some true) else (some false))) else (some false)
theorem laws_eqPoint.calls (a0_0 a0_1 : Int) (a0_2 a0_3 : Int) (a0_4 a1_0 : Int) (a1_1 a1_2 : Int) (a1_3 a1_4 : Int) (r : Bool) (w : World) (h : laws_eqPoint.f a0_0 a0_1 a0_2 a0_3 a0_4 a1_0 a1_1 a1_2 a1_3 a1_4 = some r) :
  Calls Try.prog 15 #[.agg #[.int .i64 a0_0, .int .u64 a0_1, .int .u64 a0_2, .int .u64 a0_3, .int .u64 a0_4], .agg #[.int .i64 a1_0, .int .u64 a1_1, .int .u64 a1_2, .int .u64 a1_3, .int .u64 a1_4]] w fun e w' => e = .returned (.bool r) ∧ Below w.heap.size w w' := by
 have hu31 := Try.underlying31
 have hu29 := Try.underlying29
 have HB := a_ (Below.refl w.heap.size w)
 have H := h
 unfold laws_eqPoint.f at H
 clear h
 by_cases c3 : a0_0 = a1_0
 ·rw [if_pos c3] at H
  have c3b0 := beq_iff_eq.mpr c3
  have c3b1 := bne_eq_false_iff_eq.mpr c3
  clear c3
  obtain ⟨t505, A4, H⟩ := bnd_ H
  by_cases c5 : t505 = true
  ·subst c5
   rw [if_pos rfl] at H
   obtain rfl := Option.some.inj H
   go_enter Try.func15, Try.ntmps15
   go_wp2_with (first | ((with_reducible refine gate_dst (N := 2) rfl ?_); refine boxE_ (cs := #[.int .i64 a0_0, .int .u64 a0_1, .int .u64 a0_2, .int .u64 a0_3, .int .u64 a0_4]) (t := 31) ?_; intro gb503 hg w6 hbox hb; have BK503 := a_ (hbox); have GW503 := sizeB_ hg; replace HB := stepB_ hb; clear hb hbox hg) | ((with_reducible refine gate_dst (N := 3) rfl ?_); refine boxE_ (cs := #[.int .i64 a1_0, .int .u64 a1_1, .int .u64 a1_2, .int .u64 a1_3, .int .u64 a1_4]) (t := 31) ?_; intro gb504 hg w7 hbox hb; have BK504 := a_ (hbox); have GW504 := sizeB_ hg; replace HB := stepB_ hb; obtain ⟨NB503_504, NB504_503⟩ := ne2_ BK503.out hg; replace BK503 := bb_ BK503.out hb; clear hb hbox hg; have hnb8 := NB503_504.out; have hnc8 := NB504_503.out; obtain ⟨z9_0, z9_1, z9_2, z9_3, z9_4, f9_0, f9_1, f9_2, f9_3, f9_4⟩ := cz5_ BK503.out; obtain ⟨z10_0, z10_1, z10_2, z10_3, z10_4, f10_0, f10_1, f10_2, f10_3, f10_4⟩ := cz5_ BK504.out) | (refine gcL_ 45 (some 14) Try.func45 #[.agg #[.int .u64 a0_1, .int .u64 a0_2, .int .u64 a0_3, .int .u64 a0_4], .agg #[.int .u64 a1_1, .int .u64 a1_2, .int .u64 a1_3, .int .u64 a1_4]] ?_; (with_reducible refine (laws_eqDigest.calls a0_1 a0_2 a0_3 a0_4 a1_1 a1_2 a1_3 a1_4 true _ A4.out).mono ?_); rintro e w11 ⟨rfl, hb⟩; refine ⟨_, rfl, ?_⟩; replace BK503 := bb_ BK503.out hb; replace BK504 := bb_ BK504.out hb; replace HB := stepB_ hb; (try clear hb)))
   go_ret
   exact ⟨rfl_, bel_⟩
  ·replace c5 := Bool.eq_false_iff.mpr c5
   subst c5
   rw [if_neg (show ¬ (false = true) by decide)] at H
   obtain rfl := Option.some.inj H
   go_enter Try.func15, Try.ntmps15
   go_wp2_with (first | ((with_reducible refine gate_dst (N := 2) rfl ?_); refine boxE_ (cs := #[.int .i64 a0_0, .int .u64 a0_1, .int .u64 a0_2, .int .u64 a0_3, .int .u64 a0_4]) (t := 31) ?_; intro gb503 hg w12 hbox hb; have BK503 := a_ (hbox); have GW503 := sizeB_ hg; replace HB := stepB_ hb; clear hb hbox hg) | ((with_reducible refine gate_dst (N := 3) rfl ?_); refine boxE_ (cs := #[.int .i64 a1_0, .int .u64 a1_1, .int .u64 a1_2, .int .u64 a1_3, .int .u64 a1_4]) (t := 31) ?_; intro gb504 hg w13 hbox hb; have BK504 := a_ (hbox); have GW504 := sizeB_ hg; replace HB := stepB_ hb; obtain ⟨NB503_504, NB504_503⟩ := ne2_ BK503.out hg; replace BK503 := bb_ BK503.out hb; clear hb hbox hg; have hnb14 := NB503_504.out; have hnc14 := NB504_503.out; obtain ⟨z15_0, z15_1, z15_2, z15_3, z15_4, f15_0, f15_1, f15_2, f15_3, f15_4⟩ := cz5_ BK503.out; obtain ⟨z16_0, z16_1, z16_2, z16_3, z16_4, f16_0, f16_1, f16_2, f16_3, f16_4⟩ := cz5_ BK504.out) | (refine gcL_ 45 (some 14) Try.func45 #[.agg #[.int .u64 a0_1, .int .u64 a0_2, .int .u64 a0_3, .int .u64 a0_4], .agg #[.int .u64 a1_1, .int .u64 a1_2, .int .u64 a1_3, .int .u64 a1_4]] ?_; (with_reducible refine (laws_eqDigest.calls a0_1 a0_2 a0_3 a0_4 a1_1 a1_2 a1_3 a1_4 false _ A4.out).mono ?_); rintro e w17 ⟨rfl, hb⟩; refine ⟨_, rfl, ?_⟩; replace BK503 := bb_ BK503.out hb; replace BK504 := bb_ BK504.out hb; replace HB := stepB_ hb; (try clear hb)))
   go_ret
   exact ⟨rfl_, bel_⟩
 ·rw [if_neg c3] at H
  have c3b0 := beq_eq_false_iff_ne.mpr c3
  have c3b1 := bne_iff_ne.mpr c3
  obtain rfl := Option.some.inj H
  go_enter Try.func15, Try.ntmps15
  go_wp2_with (first | ((with_reducible refine gate_dst (N := 2) rfl ?_); refine boxE_ (cs := #[.int .i64 a0_0, .int .u64 a0_1, .int .u64 a0_2, .int .u64 a0_3, .int .u64 a0_4]) (t := 31) ?_; intro gb503 hg w18 hbox hb; have BK503 := a_ (hbox); have GW503 := sizeB_ hg; replace HB := stepB_ hb; clear hb hbox hg) | ((with_reducible refine gate_dst (N := 3) rfl ?_); refine boxE_ (cs := #[.int .i64 a1_0, .int .u64 a1_1, .int .u64 a1_2, .int .u64 a1_3, .int .u64 a1_4]) (t := 31) ?_; intro gb504 hg w19 hbox hb; have BK504 := a_ (hbox); have GW504 := sizeB_ hg; replace HB := stepB_ hb; obtain ⟨NB503_504, NB504_503⟩ := ne2_ BK503.out hg; replace BK503 := bb_ BK503.out hb; clear hb hbox hg; have hnb20 := NB503_504.out; have hnc20 := NB504_503.out; obtain ⟨z21_0, z21_1, z21_2, z21_3, z21_4, f21_0, f21_1, f21_2, f21_3, f21_4⟩ := cz5_ BK503.out; obtain ⟨z22_0, z22_1, z22_2, z22_3, z22_4, f22_0, f22_1, f22_2, f22_3, f22_4⟩ := cz5_ BK504.out))
  go_ret
  exact ⟨rfl_, bel_⟩
end
end
end Go.Proofs.Ytflckegggopdnaa.B
