/- What the Go function loop.example/belfry/impl.pairText does is what the Lean function .f of its name here says; condition: .f gives an answer. (Written by the session's program pp.py over the kit's print; Lean checks it.) -/
import Derived.Test.YtfbhlofifodkjaaK
import Derived.Test.YtfbhlofifodkjaaFImplHashBytes
namespace Go.Proofs.Ytfbhlofifodkjaa.B
open Go.RowKit Go.Proofs.YtfbhlofifodkjaaW.PrintWords Go.Proofs.YtfbhlofifodkjaaW.PrintLast Go.Proofs.YtfbhlofifodkjaaW.PrintMore
attribute [local go_sem] max2_int min2_int max_two min_two max_three min_three max_four min_four   -- for this text's walks alone
set_option linter.unusedVariables false
set_option linter.unusedSimpArgs false

/-! ### impl_pairText: function 102 -/
def impl_pairText.f (k : Nat) (a0_0 : Int) (a0_1 : Int) (a0_2 : Int) (a0_3 : Int) (a1_0 : Int) (a1_1 : Int) (a1_2 : Int) (a1_3 : Int) : Option (ByteArray) := (impl_HashBytes.f k a0_0 a0_1 a0_2 a0_3).bind fun t537 => (if 1 + t537.size ≤ 9223372036854775807 then ((impl_HashBytes.f k a1_0 a1_1 a1_2 a1_3).bind fun t538 => (if ((⟨#[1]⟩ : ByteArray) ++ t537).size + t538.size ≤ 9223372036854775807 then (some (((⟨#[1]⟩ : ByteArray) ++ t537) ++ t538)) else (none))) else (none))
theorem impl_pairText.mono : ∀ a0 a1 a2 a3 a4 a5 a6 a7 k, LeO (impl_pairText.f k a0 a1 a2 a3 a4 a5 a6 a7) (impl_pairText.f (k + 1) a0 a1 a2 a3 a4 a5 a6 a7) := by
  intro a0 a1 a2 a3 a4 a5 a6 a7 k
  unfold impl_pairText.f
  repeat' first
      | (with_reducible exact impl_HashBytes.mono _ _ _ _ _)
      | (with_reducible exact LeO.refl _)
      | (with_reducible exact LeO.none _)
      | (with_reducible refine LeO.ite ?_ ?_)
      | (with_reducible refine LeO.bind ?_ (fun _ => ?_))
      | exact impl_HashBytes.mono _ _ _ _ _
      | exact LeO.none _
      | refine LeO.ite ?_ ?_
      | refine LeO.bind ?_ (fun _ => ?_)
set_option maxHeartbeats 8000000 in
set_option maxRecDepth 100000 in
theorem impl_pairText.calls (k : Nat) (a0_0 : Int) (a0_1 : Int) (a0_2 : Int) (a0_3 : Int) (a1_0 : Int) (a1_1 : Int) (a1_2 : Int) (a1_3 : Int) (r : ByteArray) (w : World) (h : impl_pairText.f k a0_0 a0_1 a0_2 a0_3 a1_0 a1_1 a1_2 a1_3 = some r) :
    Calls Try.prog 102 #[.agg #[.int .u64 a0_0, .int .u64 a0_1, .int .u64 a0_2, .int .u64 a0_3], .agg #[.int .u64 a1_0, .int .u64 a1_1, .int .u64 a1_2, .int .u64 a1_3]] w fun e w' => e = .returned (.string r) ∧ Below w.heap.size w w' := by
  have hu30 := Try.underlying30
  have HB := Aside0.mk (Below.refl w.heap.size w)
  have H : ((impl_HashBytes.f k a0_0 a0_1 a0_2 a0_3).bind fun t537 => (if 1 + t537.size ≤ 9223372036854775807 then ((impl_HashBytes.f k a1_0 a1_1 a1_2 a1_3).bind fun t538 => (if ((⟨#[1]⟩ : ByteArray) ++ t537).size + t538.size ≤ 9223372036854775807 then (some (((⟨#[1]⟩ : ByteArray) ++ t537) ++ t538)) else (none))) else (none))) = some r := h
  clear h
  replace H := Option.bind_eq_some_iff.mp H
  obtain ⟨t537, A30, H⟩ := H
  replace H : (if 1 + t537.size ≤ 9223372036854775807 then ((impl_HashBytes.f k a1_0 a1_1 a1_2 a1_3).bind fun t538 => (if ((⟨#[1]⟩ : ByteArray) ++ t537).size + t538.size ≤ 9223372036854775807 then (some (((⟨#[1]⟩ : ByteArray) ++ t537) ++ t538)) else (none))) else (none)) = some r := H
  have A3 := Aside0.mk A30
  clear A30
  by_cases c4 : 1 + t537.size ≤ 9223372036854775807
  · rw [if_pos c4] at H
    have c4b0 := eq_true c4
    have c4b1 : decide (1 + t537.size ≤ 9223372036854775807) = true := decide_eq_true c4
    try have c4b2 : (9223372036854775807 < 1 + t537.size) = False := eq_false (Nat.not_lt.2 c4)
    replace H := Option.bind_eq_some_iff.mp H
    obtain ⟨t538, A50, H⟩ := H
    replace H : (if ((⟨#[1]⟩ : ByteArray) ++ t537).size + t538.size ≤ 9223372036854775807 then (some (((⟨#[1]⟩ : ByteArray) ++ t537) ++ t538)) else (none)) = some r := H
    have A5 := Aside0.mk A50
    clear A50
    by_cases c6 : ((⟨#[1]⟩ : ByteArray) ++ t537).size + t538.size ≤ 9223372036854775807
    · rw [if_pos c6] at H
      have c6b0 := eq_true c6
      have c6b1 : decide (((⟨#[1]⟩ : ByteArray) ++ t537).size + t538.size ≤ 9223372036854775807) = true := decide_eq_true c6
      try (have c6b1n := c6b1; simp only [ByteArray.size_append, Int.natCast_add] at c6b1n)
      try have c6b2 : (9223372036854775807 < ((⟨#[1]⟩ : ByteArray) ++ t537).size + t538.size) = False := eq_false (Nat.not_lt.2 c6)
      obtain rfl := Option.some.inj H
      go_enter Try.func102, Try.ntmps102
      try go_wp2_with (first | ((with_reducible refine gate_dst (N := 2) rfl ?_); refine box_event ?hg (N := 2) ?hd (cs := #[.int .u64 a0_0, .int .u64 a0_1, .int .u64 a0_2, .int .u64 a0_3]) (t := 30) ?hr ?_; (case hd => rfl); (case hg => rfl); (case hr => first | (go_simp; done) | (go_simp; rfl)); intro gb535 hg w7 hbox hb; have n0_ := Aside0.mk (below_step (by repeat (first | (with_reducible first | exact HB.out | apply below_alloc | apply pw_below_drewN | apply below_drew1) | exact HB.out)) hb); have n1_ := Aside0.mk (hbox); have n2_ := Aside0.mk ((by rw [hg]; exact (below_size (by repeat (first | (with_reducible first | exact HB.out | apply below_alloc | apply pw_below_drewN | apply below_drew1) | exact HB.out))) : w.heap.size ≤ gb535)); have n3_ := Aside0.mk ((by rw [hg]; exact (below_size (by repeat (first | (with_reducible first | exact HB.out | apply below_alloc | apply pw_below_drewN | apply below_drew1) | exact HB.out))) : w.heap.size ≤ gb535)); clear HB; have HB := n0_; have BK535 := n1_; have GW535 := n2_; have GE535 := n3_; clear n0_ n1_ n2_ n3_; clear hb hbox hg) | ((with_reducible refine gate_dst (N := 3) rfl ?_); refine box_event ?hg (N := 3) ?hd (cs := #[.int .u64 a1_0, .int .u64 a1_1, .int .u64 a1_2, .int .u64 a1_3]) (t := 30) ?hr ?_; (case hd => rfl); (case hg => rfl); (case hr => first | (go_simp; done) | (go_simp; rfl)); intro gb536 hg w8 hbox hb; have n0_ := Aside0.mk (blk_below (g := gb535) (o := .cells #[.int .u64 a0_0, .int .u64 a0_1, .int .u64 a0_2, .int .u64 a0_3] 30 (0, 0)) (by (with_reducible repeat (first | refine blk_drewN ?_ _ | refine blk_drew ?_ | refine blk_alloc ?_ _)); exact BK535.out) hb); have n1_ := Aside0.mk (below_step (by repeat (first | (with_reducible first | exact HB.out | apply below_alloc | apply pw_below_drewN | apply below_drew1 | refine below_set ?_ GE535.out) | exact HB.out)) hb); have n2_ := Aside0.mk (hbox); have n3_ := Aside0.mk ((by rw [hg]; exact (below_size (by repeat (first | (with_reducible first | exact HB.out | apply below_alloc | apply pw_below_drewN | apply below_drew1 | refine below_set ?_ GE535.out) | exact HB.out))) : w.heap.size ≤ gb536)); have n4_ := Aside0.mk ((by rw [hg]; exact (below_size (by repeat (first | (with_reducible first | exact HB.out | apply below_alloc | apply pw_below_drewN | apply below_drew1 | refine below_set ?_ GE535.out) | exact HB.out))) : w.heap.size ≤ gb536)); have n5_ := Aside0.mk ((by rw [hg]; exact Nat.ne_of_lt (blk_lt (g := gb535) (o := .cells #[.int .u64 a0_0, .int .u64 a0_1, .int .u64 a0_2, .int .u64 a0_3] 30 (0, 0)) (by (with_reducible repeat (first | refine blk_drewN ?_ _ | refine blk_drew ?_ | refine blk_alloc ?_ _)); exact BK535.out)) : gb535 ≠ gb536)); have n6_ := Aside0.mk ((by rw [hg]; exact Nat.ne_of_gt (blk_lt (g := gb535) (o := .cells #[.int .u64 a0_0, .int .u64 a0_1, .int .u64 a0_2, .int .u64 a0_3] 30 (0, 0)) (by (with_reducible repeat (first | refine blk_drewN ?_ _ | refine blk_drew ?_ | refine blk_alloc ?_ _)); exact BK535.out)) : gb536 ≠ gb535)); clear BK535; clear HB; have BK535 := n0_; have HB := n1_; have BK536 := n2_; have GW536 := n3_; have GE536 := n4_; have NB535_536 := n5_; have NB536_535 := n6_; clear n0_ n1_ n2_ n3_ n4_ n5_ n6_; clear hb hbox hg))
      have n0_ := Aside0.mk (blk_drew BK535.out)
      have n1_ := Aside0.mk (blk_drew BK536.out)
      have n2_ := Aside0.mk (below_drew1 HB.out)
      clear BK535
      clear BK536
      clear HB
      have BK535 := n0_
      have BK536 := n1_
      have HB := n2_
      clear n0_ n1_ n2_
      refine start_ (n := 7) (S := fun w' => w'.cell? ⟨gb535, 0, none⟩ = some (.int .u64 a0_0) ∧ w'.cell? ⟨gb535, 1, none⟩ = some (.int .u64 a0_1) ∧ w'.cell? ⟨gb535, 2, none⟩ = some (.int .u64 a0_2) ∧ w'.cell? ⟨gb535, 3, none⟩ = some (.int .u64 a0_3) ∧ w'.cell? ⟨gb536, 0, none⟩ = some (.int .u64 a1_0) ∧ w'.cell? ⟨gb536, 1, none⟩ = some (.int .u64 a1_1) ∧ w'.cell? ⟨gb536, 2, none⟩ = some (.int .u64 a1_2) ∧ w'.cell? ⟨gb536, 3, none⟩ = some (.int .u64 a1_3)) (ds := []) #[false, false, false, false, false, false, false] (by kernel_rfl) rfl rfl ⟨(blk_cell BK535.out 0).trans rfl, (blk_cell BK535.out 1).trans rfl, (blk_cell BK535.out 2).trans rfl, (blk_cell BK535.out 3).trans rfl, (blk_cell BK536.out 0).trans rfl, (blk_cell BK536.out 1).trans rfl, (blk_cell BK536.out 2).trans rfl, (blk_cell BK536.out 3).trans rfl⟩ (fun hHeld => ?_)
      generalize w8.drew = w9 at BK535 BK536 HB hHeld ⊢
      refine take_ (i := 0) (N := some 5) (v := ?_) (a' := ?_) #[true, false, false, false, false, false, false] rfl rfl (by kernel_rfl) (fun _ _ _ h => h) (Or.inl ⟨by rfl, ?_⟩) hHeld ?_ ?_
      rotate_left
      · rintro w' ⟨s0, s1, s2, s3, s4, s5, s6, s7⟩
        go_simp
        first | with_reducible rfl | (rw [if_neg (by intro h_; (try have zc4b0_ := of_eq_true c4b0); (try have zc6b0_ := of_eq_true c6b0); (try simp only [ByteArray.size_append, ByteArray.size_extract, show (⟨#[1]⟩ : ByteArray).size = 1 from rfl] at c4); (try simp only [ByteArray.size_append, ByteArray.size_extract, show (⟨#[1]⟩ : ByteArray).size = 1 from rfl] at c6); (try simp only [ByteArray.size_append, ByteArray.size_extract, show (⟨#[1]⟩ : ByteArray).size = 1 from rfl] at h_); omega)]; done) | (rw [if_neg (by intro h_; (try have zc4b0_ := of_eq_true c4b0); (try have zc6b0_ := of_eq_true c6b0); (try simp only [ByteArray.size_append, ByteArray.size_extract, show (⟨#[1]⟩ : ByteArray).size = 1 from rfl] at c4); (try simp only [ByteArray.size_append, ByteArray.size_extract, show (⟨#[1]⟩ : ByteArray).size = 1 from rfl] at c6); (try simp only [ByteArray.size_append, ByteArray.size_extract, show (⟨#[1]⟩ : ByteArray).size = 1 from rfl] at h_); omega)]; rfl)
      rotate_left
      · simp only [Act.put, List.setIfInBounds_toArray, List.set_cons_zero, List.set_cons_succ, i64_w, i32_w]
        rfl
      refine take_ (i := 3) (N := some 8) (v := ?_) (a' := ?_) #[true, false, false, true, false, false, false] rfl rfl (by kernel_rfl) (fun _ _ _ h => h) (Or.inl ⟨by rfl, ?_⟩) hHeld ?_ ?_
      rotate_left
      · rintro w' ⟨s0, s1, s2, s3, s4, s5, s6, s7⟩
        go_simp
        first | with_reducible rfl | (rw [if_neg (by intro h_; (try have zc4b0_ := of_eq_true c4b0); (try have zc6b0_ := of_eq_true c6b0); (try simp only [ByteArray.size_append, ByteArray.size_extract, show (⟨#[1]⟩ : ByteArray).size = 1 from rfl] at c4); (try simp only [ByteArray.size_append, ByteArray.size_extract, show (⟨#[1]⟩ : ByteArray).size = 1 from rfl] at c6); (try simp only [ByteArray.size_append, ByteArray.size_extract, show (⟨#[1]⟩ : ByteArray).size = 1 from rfl] at h_); omega)]; done) | (rw [if_neg (by intro h_; (try have zc4b0_ := of_eq_true c4b0); (try have zc6b0_ := of_eq_true c6b0); (try simp only [ByteArray.size_append, ByteArray.size_extract, show (⟨#[1]⟩ : ByteArray).size = 1 from rfl] at c4); (try simp only [ByteArray.size_append, ByteArray.size_extract, show (⟨#[1]⟩ : ByteArray).size = 1 from rfl] at c6); (try simp only [ByteArray.size_append, ByteArray.size_extract, show (⟨#[1]⟩ : ByteArray).size = 1 from rfl] at h_); omega)]; rfl)
      rotate_left
      · simp only [Act.put, List.setIfInBounds_toArray, List.set_cons_zero, List.set_cons_succ, i64_w, i32_w]
        rfl
      refine one_ (i := 1) (N := some 6) #[true, true, false, true, false, false, false] rfl rfl (by kernel_rfl) (by decide) (fun K hK => ?_)
      refine goes_ Try.func30 (by kernel_rfl) rfl #[.agg #[.int .u64 a0_0, .int .u64 a0_1, .int .u64 a0_2, .int .u64 a0_3]] (by rfl) rfl rfl (by (try simp only [List.map_toArray, List.map_cons, List.map_nil]); first | done | rfl | (simp only [List.length_drop, List.length_take]; rfl)) ?_
      with_reducible refine (impl_HashBytes.calls k a0_0 a0_1 a0_2 a0_3 t537 _ A3.out).mono ?_
      rintro e w10 ⟨rfl, hb⟩
      refine ⟨_, rfl, ?_⟩
      have n0_ := Aside0.mk (blk_below (g := gb535) (o := .cells #[.int .u64 a0_0, .int .u64 a0_1, .int .u64 a0_2, .int .u64 a0_3] 30 (0, 0)) (by (with_reducible repeat (first | refine blk_drewN ?_ _ | refine blk_drew ?_ | refine blk_alloc ?_ _)); exact BK535.out) hb)
      have n1_ := Aside0.mk (blk_below (g := gb536) (o := .cells #[.int .u64 a1_0, .int .u64 a1_1, .int .u64 a1_2, .int .u64 a1_3] 30 (0, 0)) (by (with_reducible repeat (first | refine blk_drewN ?_ _ | refine blk_drew ?_ | refine blk_alloc ?_ _)); exact BK536.out) hb)
      have n2_ := Aside0.mk (below_step (by repeat (first | (with_reducible first | exact HB.out | apply below_alloc | apply pw_below_drewN | apply below_drew1 | refine below_set ?_ GE535.out | refine below_set ?_ GE536.out) | exact HB.out)) hb)
      clear BK535
      clear BK536
      clear HB
      have BK535 := n0_
      have BK536 := n1_
      have HB := n2_
      clear n0_ n1_ n2_
      (try clear hb)
      (try clear hb2)
      (try clear hk)
      (try clear hi)
      refine hK.out _ _ ⟨(blk_cell BK535.out 0).trans rfl, (blk_cell BK535.out 1).trans rfl, (blk_cell BK535.out 2).trans rfl, (blk_cell BK535.out 3).trans rfl, (blk_cell BK536.out 0).trans rfl, (blk_cell BK536.out 1).trans rfl, (blk_cell BK536.out 2).trans rfl, (blk_cell BK536.out 3).trans rfl⟩ (fun hHeld => ?_)
      clear hK K
      refine norm_ (a' := ?_) ?_ ?_
      rotate_left
      · show Act.put _ (some 6) _ = _
        simp only [Act.put, List.setIfInBounds_toArray, List.set_cons_zero, List.set_cons_succ, i64_w, i32_w]
        rfl
      refine pure_ (i := 2) (N := some 7) (v := ?_) (a' := ?_) #[true, true, true, true, false, false, false] rfl rfl (by kernel_rfl) (fun _ _ _ h => h) (Or.inl ⟨by rfl, ?_⟩) ?_ ?_
      rotate_left
      · intro w'
        go_simp
        first | with_reducible rfl | (rw [if_neg (by intro h_; (try have zc4b0_ := of_eq_true c4b0); (try have zc6b0_ := of_eq_true c6b0); (try simp only [ByteArray.size_append, ByteArray.size_extract, show (⟨#[1]⟩ : ByteArray).size = 1 from rfl] at c4); (try simp only [ByteArray.size_append, ByteArray.size_extract, show (⟨#[1]⟩ : ByteArray).size = 1 from rfl] at c6); (try simp only [ByteArray.size_append, ByteArray.size_extract, show (⟨#[1]⟩ : ByteArray).size = 1 from rfl] at h_); omega)]; done) | (rw [if_neg (by intro h_; (try have zc4b0_ := of_eq_true c4b0); (try have zc6b0_ := of_eq_true c6b0); (try simp only [ByteArray.size_append, ByteArray.size_extract, show (⟨#[1]⟩ : ByteArray).size = 1 from rfl] at c4); (try simp only [ByteArray.size_append, ByteArray.size_extract, show (⟨#[1]⟩ : ByteArray).size = 1 from rfl] at c6); (try simp only [ByteArray.size_append, ByteArray.size_extract, show (⟨#[1]⟩ : ByteArray).size = 1 from rfl] at h_); omega)]; rfl)
      rotate_left
      · simp only [Act.put, List.setIfInBounds_toArray, List.set_cons_zero, List.set_cons_succ, i64_w, i32_w]
        rfl
      refine one_ (i := 4) (N := some 9) #[true, true, true, true, true, false, false] rfl rfl (by kernel_rfl) (by decide) (fun K hK => ?_)
      refine goes_ Try.func30 (by kernel_rfl) rfl #[.agg #[.int .u64 a1_0, .int .u64 a1_1, .int .u64 a1_2, .int .u64 a1_3]] (by rfl) rfl rfl (by (try simp only [List.map_toArray, List.map_cons, List.map_nil]); first | done | rfl | (simp only [List.length_drop, List.length_take]; rfl)) ?_
      with_reducible refine (impl_HashBytes.calls k a1_0 a1_1 a1_2 a1_3 t538 _ A5.out).mono ?_
      rintro e w11 ⟨rfl, hb⟩
      refine ⟨_, rfl, ?_⟩
      have n0_ := Aside0.mk (blk_below (g := gb535) (o := .cells #[.int .u64 a0_0, .int .u64 a0_1, .int .u64 a0_2, .int .u64 a0_3] 30 (0, 0)) (by (with_reducible repeat (first | refine blk_drewN ?_ _ | refine blk_drew ?_ | refine blk_alloc ?_ _)); exact BK535.out) hb)
      have n1_ := Aside0.mk (blk_below (g := gb536) (o := .cells #[.int .u64 a1_0, .int .u64 a1_1, .int .u64 a1_2, .int .u64 a1_3] 30 (0, 0)) (by (with_reducible repeat (first | refine blk_drewN ?_ _ | refine blk_drew ?_ | refine blk_alloc ?_ _)); exact BK536.out) hb)
      have n2_ := Aside0.mk (below_step (by repeat (first | (with_reducible first | exact HB.out | apply below_alloc | apply pw_below_drewN | apply below_drew1 | refine below_set ?_ GE535.out | refine below_set ?_ GE536.out) | exact HB.out)) hb)
      clear BK535
      clear BK536
      clear HB
      have BK535 := n0_
      have BK536 := n1_
      have HB := n2_
      clear n0_ n1_ n2_
      (try clear hb)
      (try clear hb2)
      (try clear hk)
      (try clear hi)
      refine hK.out _ _ ⟨(blk_cell BK535.out 0).trans rfl, (blk_cell BK535.out 1).trans rfl, (blk_cell BK535.out 2).trans rfl, (blk_cell BK535.out 3).trans rfl, (blk_cell BK536.out 0).trans rfl, (blk_cell BK536.out 1).trans rfl, (blk_cell BK536.out 2).trans rfl, (blk_cell BK536.out 3).trans rfl⟩ (fun hHeld => ?_)
      clear hK K
      refine norm_ (a' := ?_) ?_ ?_
      rotate_left
      · show Act.put _ (some 9) _ = _
        simp only [Act.put, List.setIfInBounds_toArray, List.set_cons_zero, List.set_cons_succ, i64_w, i32_w]
        rfl
      refine pure_ (i := 5) (N := some 10) (v := ?_) (a' := ?_) #[true, true, true, true, true, true, false] rfl rfl (by kernel_rfl) (fun _ _ _ h => h) (Or.inl ⟨by rfl, ?_⟩) ?_ ?_
      rotate_left
      · intro w'
        go_simp
        first | with_reducible rfl | (rw [if_neg (by intro h_; (try have zc4b0_ := of_eq_true c4b0); (try have zc6b0_ := of_eq_true c6b0); (try simp only [ByteArray.size_append, ByteArray.size_extract, show (⟨#[1]⟩ : ByteArray).size = 1 from rfl] at c4); (try simp only [ByteArray.size_append, ByteArray.size_extract, show (⟨#[1]⟩ : ByteArray).size = 1 from rfl] at c6); (try simp only [ByteArray.size_append, ByteArray.size_extract, show (⟨#[1]⟩ : ByteArray).size = 1 from rfl] at h_); omega)]; done) | (rw [if_neg (by intro h_; (try have zc4b0_ := of_eq_true c4b0); (try have zc6b0_ := of_eq_true c6b0); (try simp only [ByteArray.size_append, ByteArray.size_extract, show (⟨#[1]⟩ : ByteArray).size = 1 from rfl] at c4); (try simp only [ByteArray.size_append, ByteArray.size_extract, show (⟨#[1]⟩ : ByteArray).size = 1 from rfl] at c6); (try simp only [ByteArray.size_append, ByteArray.size_extract, show (⟨#[1]⟩ : ByteArray).size = 1 from rfl] at h_); omega)]; rfl)
      rotate_left
      · simp only [Act.put, List.setIfInBounds_toArray, List.set_cons_zero, List.set_cons_succ, i64_w, i32_w]
        rfl
      refine pure_ (i := 6) (N := some 4) (v := ?_) (a' := ?_) #[true, true, true, true, true, true, true] rfl rfl (by kernel_rfl) (fun _ _ _ h => h) (Or.inl ⟨by rfl, ?_⟩) ?_ ?_
      rotate_left
      · intro w'
        go_simp
        first | with_reducible rfl | (rw [if_neg (by intro h_; (try have zc4b0_ := of_eq_true c4b0); (try have zc6b0_ := of_eq_true c6b0); (try simp only [ByteArray.size_append, ByteArray.size_extract, show (⟨#[1]⟩ : ByteArray).size = 1 from rfl] at c4); (try simp only [ByteArray.size_append, ByteArray.size_extract, show (⟨#[1]⟩ : ByteArray).size = 1 from rfl] at c6); (try simp only [ByteArray.size_append, ByteArray.size_extract, show (⟨#[1]⟩ : ByteArray).size = 1 from rfl] at h_); omega)]; done) | (rw [if_neg (by intro h_; (try have zc4b0_ := of_eq_true c4b0); (try have zc6b0_ := of_eq_true c6b0); (try simp only [ByteArray.size_append, ByteArray.size_extract, show (⟨#[1]⟩ : ByteArray).size = 1 from rfl] at c4); (try simp only [ByteArray.size_append, ByteArray.size_extract, show (⟨#[1]⟩ : ByteArray).size = 1 from rfl] at c6); (try simp only [ByteArray.size_append, ByteArray.size_extract, show (⟨#[1]⟩ : ByteArray).size = 1 from rfl] at h_); omega)]; rfl)
      rotate_left
      · simp only [Act.put, List.setIfInBounds_toArray, List.set_cons_zero, List.set_cons_succ, i64_w, i32_w]
        rfl
      refine done_ (by kernel_rfl) ?_
      try go_wp2
      go_ret
      exact ⟨by first | rfl | (simp [errW_none, errW_some] <;> rfl) | (simp [*, errW_none, errW_some] <;> rfl), by repeat (first | (with_reducible first | exact HB.out | apply below_alloc | apply pw_below_drewN | apply below_drew1 | refine below_set ?_ GE535.out | refine below_set ?_ GE536.out) | exact HB.out)⟩
    · rw [if_neg c6] at H
      exact absurd H (by simp)
  · rw [if_neg c4] at H
    exact absurd H (by simp)

end Go.Proofs.Ytfbhlofifodkjaa.B
