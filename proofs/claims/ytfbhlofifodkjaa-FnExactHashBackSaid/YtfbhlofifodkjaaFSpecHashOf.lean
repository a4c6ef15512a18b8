/- What the Go function loop.example/belfry/spec.HashOf does is what the Lean function .f of its name here says; condition: .f gives an answer. (Written by the session's program pp.py over the kit's print; Lean checks it.) -/
import Derived.Test.YtfbhlofifodkjaaK
import Derived.Test.YtfbhlofifodkjaaFSpecHashBlock
import Derived.Test.YtfbhlofifodkjaaFSpecL1Bytes
import Derived.Test.YtfbhlofifodkjaaFSpecL1Word
import Derived.Test.YtfbhlofifodkjaaFSpecL1Bare
import Derived.Test.YtfbhlofifodkjaaFSpecL1Zeros
namespace Go.Proofs.Ytfbhlofifodkjaa.B
open Go.RowKit Go.Proofs.YtfbhlofifodkjaaW.PrintWords Go.Proofs.YtfbhlofifodkjaaW.PrintLast Go.Proofs.YtfbhlofifodkjaaW.PrintMore
attribute [local go_sem] max2_int min2_int max_two min_two max_three min_three max_four min_four   -- for this text's walks alone
set_option linter.unusedVariables false
set_option linter.unusedSimpArgs false

/-! ### spec_HashOf: function 52 -/
def spec_HashOf.l0 : Nat → ByteArray → Int → Int → Int → Int → Int → Option (Int × Int × Int × Int)
  | 0, _, _, _, _, _, _ => none
  | k + 1, x4, x6, x419000, x419001, x419002, x419003 => if x6 < (x4.size : Int) then ((spec_l1Word.f k x4 x6).bind fun t419 => ((spec_l1Word.f k x4 (wrap64 (x6 + 8))).bind fun t420 => ((spec_l1Word.f k x4 (wrap64 (x6 + 16))).bind fun t421 => ((spec_l1Word.f k x4 (wrap64 (x6 + 24))).bind fun t422 => ((spec_HashBlock.f k x419000 x419001 x419002 x419003 t419 t420 t421 t422).bind fun bt423 => (spec_HashOf.l0 k x4 (wrap64 (x6 + 32)) bt423.1 bt423.2.1 bt423.2.2.1 bt423.2.2.2)))))) else (some (x419000, x419001, x419002, x419003))
def spec_HashOf.f (k : Nat) (a0 : ByteArray) : Option (Int × Int × Int × Int) := if (a0.size : Int) > 20000 then (some (0, 0, 0, 0)) else ((spec_l1Bare.f k a0).bind fun t412 => ((some (([128] : List Int) : List Int)).bind fun y413 => (if t412.size + (strOfNums y413).size ≤ 9223372036854775807 then ((spec_l1Zeros.f k (Int.tmod (wrap64 (32 - (Int.tmod (wrap64 ((t412.size : Int) + 9)) 32))) 32)).bind fun t416 => (if (t412 ++ (strOfNums y413)).size + t416.size ≤ 9223372036854775807 then ((spec_l1Bytes.f k (IntKind.u64.wrap ((t412.size : Int)))).bind fun t417 => (if ((t412 ++ (strOfNums y413)) ++ t416).size + t417.size ≤ 9223372036854775807 then (spec_HashOf.l0 k (((t412 ++ (strOfNums y413)) ++ t416) ++ t417) 0 13971524466476933880 3286059910148148165 8210247237615983910 11412903256176698835) else (none))) else (none))) else (none))))
theorem spec_HashOf.mono_l : ∀ k, (∀ y0 y1 y2 y3 y4 y5, LeO (spec_HashOf.l0 k y0 y1 y2 y3 y4 y5) (spec_HashOf.l0 (k + 1) y0 y1 y2 y3 y4 y5))
  | 0 => fun _ _ _ _ _ _ r h => by simp [spec_HashOf.l0] at h
  | k + 1 => by
    have ih0 := spec_HashOf.mono_l k
    · intro y0 y1 y2 y3 y4 y5
      unfold spec_HashOf.l0
      repeat' first
      | (with_reducible exact ih0 _ _ _ _ _ _)
      | (with_reducible exact spec_HashBlock.mono _ _ _ _ _ _ _ _ _)
      | (with_reducible exact spec_l1Bare.mono _ _)
      | (with_reducible exact spec_l1Bytes.mono _ _)
      | (with_reducible exact spec_l1Word.mono _ _ _)
      | (with_reducible exact spec_l1Zeros.mono _ _)
      | (with_reducible exact LeO.refl _)
      | (with_reducible exact LeO.none _)
      | (with_reducible refine LeO.ite ?_ ?_)
      | (with_reducible refine LeO.bind ?_ (fun _ => ?_))
      | exact ih0 _ _ _ _ _ _
      | exact spec_HashBlock.mono _ _ _ _ _ _ _ _ _
      | exact spec_l1Bare.mono _ _
      | exact spec_l1Bytes.mono _ _
      | exact spec_l1Word.mono _ _ _
      | exact spec_l1Zeros.mono _ _
      | exact LeO.none _
      | refine LeO.ite ?_ ?_
      | refine LeO.bind ?_ (fun _ => ?_)
theorem spec_HashOf.mono : ∀ a0 k, LeO (spec_HashOf.f k a0) (spec_HashOf.f (k + 1) a0) := by
  intro a0 k
  have ih0 := spec_HashOf.mono_l k
  unfold spec_HashOf.f
  repeat' first
      | (with_reducible exact ih0 _ _ _ _ _ _)
      | (with_reducible exact spec_HashBlock.mono _ _ _ _ _ _ _ _ _)
      | (with_reducible exact spec_l1Bare.mono _ _)
      | (with_reducible exact spec_l1Bytes.mono _ _)
      | (with_reducible exact spec_l1Word.mono _ _ _)
      | (with_reducible exact spec_l1Zeros.mono _ _)
      | (with_reducible exact LeO.refl _)
      | (with_reducible exact LeO.none _)
      | (with_reducible refine LeO.ite ?_ ?_)
      | (with_reducible refine LeO.bind ?_ (fun _ => ?_))
      | exact ih0 _ _ _ _ _ _
      | exact spec_HashBlock.mono _ _ _ _ _ _ _ _ _
      | exact spec_l1Bare.mono _ _
      | exact spec_l1Bytes.mono _ _
      | exact spec_l1Word.mono _ _ _
      | exact spec_l1Zeros.mono _ _
      | exact LeO.none _
      | refine LeO.ite ?_ ?_
      | refine LeO.bind ?_ (fun _ => ?_)
def spec_HashOf.T5 : Bool × List (List Nat × List Nat) := (true, [([], []), ([], []), ([1], [1]), ([0, 2], [0, 2]), ([], []), ([4], [4]), ([3, 5], [3, 5]), ([], []), ([7], [7]), ([8], [8]), ([9, 5], [9]), ([6, 10], [6, 10]), ([11, 10, 0, 1, 2, 3, 4, 5, 6, 7, 8, 9, 10, 11], [11])])
def spec_HashOf.B5 : List Nat := [0, 0, 2, 7, 0, 16, 63, 0, 128, 384, 944, 2047, 4095]
theorem spec_HashOf.tab5 : rtab .any (opsOf Try.f52 5) = spec_HashOf.T5 := by kernel_rfl
theorem spec_HashOf.bits5 : waitsOk spec_HashOf.T5.2 spec_HashOf.B5 = true := by kernel_rfl
def spec_HashOf.T10 : Bool × List (List Nat × List Nat) := (true, [([], []), ([], []), ([], []), ([1, 2], [1, 2]), ([], []), ([], []), ([5], [5]), ([4, 6, 3], [4, 6]), ([], []), ([], []), ([9], [9]), ([8, 10, 7], [8, 10]), ([], []), ([], []), ([13], [13]), ([12, 14, 11], [12, 14]), ([3, 7, 11, 15], [3, 7, 11, 15]), ([0, 16, 15], [0, 16]), ([17, 17, 0, 1, 2, 3, 4, 5, 6, 7, 8, 9, 10, 11, 12, 13, 14, 15, 16, 17], [17])])
def spec_HashOf.B10 : List Nat := [0, 0, 0, 6, 0, 0, 32, 126, 0, 0, 512, 2046, 0, 0, 8192, 32766, 65534, 131071, 262143]
theorem spec_HashOf.tab10 : rtab .any (opsOf Try.f52 10) = spec_HashOf.T10 := by kernel_rfl
theorem spec_HashOf.bits10 : waitsOk spec_HashOf.T10.2 spec_HashOf.B10 = true := by kernel_rfl
set_option maxHeartbeats 8000000 in
set_option maxRecDepth 100000 in
theorem spec_HashOf.calls (k : Nat) (a0 : ByteArray) (r1 : Int) (r2 : Int) (r3 : Int) (r4 : Int) (w : World) (h : spec_HashOf.f k a0 = some (r1, r2, r3, r4)) :
    Calls Try.prog 52 #[.string a0] w fun e w' => e = .returned (.agg #[.int .u64 r1, .int .u64 r2, .int .u64 r3, .int .u64 r4]) ∧ Below w.heap.size w w' := by
  have hu30 := Try.underlying30
  have HB := Aside0.mk (Below.refl w.heap.size w)
  have H : (if (a0.size : Int) > 20000 then (some (0, 0, 0, 0)) else ((spec_l1Bare.f k a0).bind fun t412 => ((some (([128] : List Int) : List Int)).bind fun y413 => (if t412.size + (strOfNums y413).size ≤ 9223372036854775807 then ((spec_l1Zeros.f k (Int.tmod (wrap64 (32 - (Int.tmod (wrap64 ((t412.size : Int) + 9)) 32))) 32)).bind fun t416 => (if (t412 ++ (strOfNums y413)).size + t416.size ≤ 9223372036854775807 then ((spec_l1Bytes.f k (IntKind.u64.wrap ((t412.size : Int)))).bind fun t417 => (if ((t412 ++ (strOfNums y413)) ++ t416).size + t417.size ≤ 9223372036854775807 then (spec_HashOf.l0 k (((t412 ++ (strOfNums y413)) ++ t416) ++ t417) 0 13971524466476933880 3286059910148148165 8210247237615983910 11412903256176698835) else (none))) else (none))) else (none))))) = some (r1, r2, r3, r4) := h
  clear h
  by_cases c2 : (a0.size : Int) > 20000
  · rw [if_pos c2] at H
    have c2b0 : decide (20000 < (a0.size : Int)) = true := decide_eq_true c2
    have c2b1 : decide (20000 < a0.size) = true := decide_eq_true (by omega)
    clear c2
    simp only [Option.some.injEq, Prod.mk.injEq] at H
    obtain ⟨rfl, rfl, rfl, rfl⟩ := H
    go_enter Try.func52, Try.ntmps52
    go_wp2_with (first | ((with_reducible refine gate_dst (N := 2) rfl ?_); refine box_event ?hg (N := 2) ?hd (cs := #[.int .u64 0, .int .u64 0, .int .u64 0, .int .u64 0]) (t := 30) ?hr ?_; (case hd => rfl); (case hg => rfl); (case hr => first | (go_simp; done) | (go_simp; rfl)); intro gb411 hg w3 hbox hb; have n0_ := Aside0.mk (below_step (by repeat (first | (with_reducible first | exact HB.out | apply below_alloc | apply pw_below_drewN | apply below_drew1) | exact HB.out)) hb); have n1_ := Aside0.mk (hbox); have n2_ := Aside0.mk ((by rw [hg]; exact (below_size (by repeat (first | (with_reducible first | exact HB.out | apply below_alloc | apply pw_below_drewN | apply below_drew1) | exact HB.out))) : w.heap.size ≤ gb411)); have n3_ := Aside0.mk ((by rw [hg]; exact (below_size (by repeat (first | (with_reducible first | exact HB.out | apply below_alloc | apply pw_below_drewN | apply below_drew1) | exact HB.out))) : w.heap.size ≤ gb411)); clear HB; have HB := n0_; have BK411 := n1_; have GW411 := n2_; have GE411 := n3_; clear n0_ n1_ n2_ n3_; clear hb hbox hg; have hcz4_0 : w3.cell? ⟨gb411, 0, none⟩ = some (.int .u64 0) := (blk_cell BK411.out 0).trans rfl; have hcz4_1 : w3.cell? ⟨gb411, 1, none⟩ = some (.int .u64 0) := (blk_cell BK411.out 1).trans rfl; have hcz4_2 : w3.cell? ⟨gb411, 2, none⟩ = some (.int .u64 0) := (blk_cell BK411.out 2).trans rfl; have hcz4_3 : w3.cell? ⟨gb411, 3, none⟩ = some (.int .u64 0) := (blk_cell BK411.out 3).trans rfl; have hfz4_0 := blk_frozen BK411.out 0; have hfz4_1 := blk_frozen BK411.out 1; have hfz4_2 := blk_frozen BK411.out 2; have hfz4_3 := blk_frozen BK411.out 3))
    refine bodyPost_ret (results_cell_row rfl _ _ gb411 30 #[.int .u64 0, .int .u64 0, .int .u64 0, .int .u64 0] (0, 0) _ rfl (by (with_reducible repeat (first | refine blk_drewN ?_ _ | refine blk_drew ?_ | refine blk_alloc ?_ _)); refine blk_put (cs := #[.int .u64 0, .int .u64 0, .int .u64 0, .int .u64 0]) ?_ 3 _ rfl; (with_reducible repeat (first | refine blk_drewN ?_ _ | refine blk_drew ?_ | refine blk_alloc ?_ _)); refine blk_put (cs := #[.int .u64 0, .int .u64 0, .int .u64 0, .int .u64 0]) ?_ 2 _ rfl; (with_reducible repeat (first | refine blk_drewN ?_ _ | refine blk_drew ?_ | refine blk_alloc ?_ _)); refine blk_put (cs := #[.int .u64 0, .int .u64 0, .int .u64 0, .int .u64 0]) ?_ 1 _ rfl; (with_reducible repeat (first | refine blk_drewN ?_ _ | refine blk_drew ?_ | refine blk_alloc ?_ _)); refine blk_put (cs := #[.int .u64 0, .int .u64 0, .int .u64 0, .int .u64 0]) ?_ 0 _ rfl; (with_reducible repeat (first | refine blk_drewN ?_ _ | refine blk_drew ?_ | refine blk_alloc ?_ _)); exact BK411.out) Try.underlying30 rfl (by kernel_rfl)) rfl ?_
    exact ⟨by first | rfl | (simp [errW_none, errW_some] <;> rfl) | (simp [*, errW_none, errW_some] <;> rfl), by repeat (first | (with_reducible first | exact HB.out | apply below_alloc | apply pw_below_drewN | apply below_drew1 | refine below_set ?_ GE411.out) | exact HB.out)⟩
  · rw [if_neg c2] at H
    have c2b0 : decide (20000 < (a0.size : Int)) = false := decide_eq_false c2
    have c2b1 : decide (20000 < a0.size) = false := decide_eq_false (by omega)
    clear c2
    replace H := Option.bind_eq_some_iff.mp H
    obtain ⟨t412, A50, H⟩ := H
    replace H : ((some (([128] : List Int) : List Int)).bind fun y413 => (if t412.size + (strOfNums y413).size ≤ 9223372036854775807 then ((spec_l1Zeros.f k (Int.tmod (wrap64 (32 - (Int.tmod (wrap64 ((t412.size : Int) + 9)) 32))) 32)).bind fun t416 => (if (t412 ++ (strOfNums y413)).size + t416.size ≤ 9223372036854775807 then ((spec_l1Bytes.f k (IntKind.u64.wrap ((t412.size : Int)))).bind fun t417 => (if ((t412 ++ (strOfNums y413)) ++ t416).size + t417.size ≤ 9223372036854775807 then (spec_HashOf.l0 k (((t412 ++ (strOfNums y413)) ++ t416) ++ t417) 0 13971524466476933880 3286059910148148165 8210247237615983910 11412903256176698835) else (none))) else (none))) else (none))) = some (r1, r2, r3, r4) := H
    have A5 := Aside0.mk A50
    clear A50
    obtain ⟨y413, hy413⟩ : ∃ y_ : List Int, y_ = (([128] : List Int)) := ⟨_, rfl⟩
    replace H : (if t412.size + (strOfNums y413).size ≤ 9223372036854775807 then ((spec_l1Zeros.f k (Int.tmod (wrap64 (32 - (Int.tmod (wrap64 ((t412.size : Int) + 9)) 32))) 32)).bind fun t416 => (if (t412 ++ (strOfNums y413)).size + t416.size ≤ 9223372036854775807 then ((spec_l1Bytes.f k (IntKind.u64.wrap ((t412.size : Int)))).bind fun t417 => (if ((t412 ++ (strOfNums y413)) ++ t416).size + t417.size ≤ 9223372036854775807 then (spec_HashOf.l0 k (((t412 ++ (strOfNums y413)) ++ t416) ++ t417) 0 13971524466476933880 3286059910148148165 8210247237615983910 11412903256176698835) else (none))) else (none))) else (none)) = some (r1, r2, r3, r4) := by first | (rw [hy413]; with_reducible exact H) | (have H2_ := (Option.bind_some _ _).symm.trans H; rw [hy413]; with_reducible exact H2_) | (have H2_ := (Option.bind_some _ _).symm.trans H; with_reducible exact H2_) | with_reducible exact H | (rw [hy413]; exact H) | exact H
    have Ny413 := Aside0.mk hy413
    clear hy413
    by_cases c6 : t412.size + (strOfNums y413).size ≤ 9223372036854775807
    · rw [if_pos c6] at H
      have c6b0 := eq_true c6
      have c6b1 : decide (t412.size + (strOfNums y413).size ≤ 9223372036854775807) = true := decide_eq_true c6
      try have c6b2 : (9223372036854775807 < t412.size + (strOfNums y413).size) = False := eq_false (Nat.not_lt.2 c6)
      replace H := Option.bind_eq_some_iff.mp H
      obtain ⟨t416, A70, H⟩ := H
      replace H : (if (t412 ++ (strOfNums y413)).size + t416.size ≤ 9223372036854775807 then ((spec_l1Bytes.f k (IntKind.u64.wrap ((t412.size : Int)))).bind fun t417 => (if ((t412 ++ (strOfNums y413)) ++ t416).size + t417.size ≤ 9223372036854775807 then (spec_HashOf.l0 k (((t412 ++ (strOfNums y413)) ++ t416) ++ t417) 0 13971524466476933880 3286059910148148165 8210247237615983910 11412903256176698835) else (none))) else (none)) = some (r1, r2, r3, r4) := H
      have A7 := Aside0.mk A70
      clear A70
      by_cases c8 : (t412 ++ (strOfNums y413)).size + t416.size ≤ 9223372036854775807
      · rw [if_pos c8] at H
        have c8b0 := eq_true c8
        have c8b1 : decide ((t412 ++ (strOfNums y413)).size + t416.size ≤ 9223372036854775807) = true := decide_eq_true c8
        try (have c8b1n := c8b1; simp only [ByteArray.size_append, Int.natCast_add] at c8b1n)
        try have c8b2 : (9223372036854775807 < (t412 ++ (strOfNums y413)).size + t416.size) = False := eq_false (Nat.not_lt.2 c8)
        replace H := Option.bind_eq_some_iff.mp H
        obtain ⟨t417, A90, H⟩ := H
        replace H : (if ((t412 ++ (strOfNums y413)) ++ t416).size + t417.size ≤ 9223372036854775807 then (spec_HashOf.l0 k (((t412 ++ (strOfNums y413)) ++ t416) ++ t417) 0 13971524466476933880 3286059910148148165 8210247237615983910 11412903256176698835) else (none)) = some (r1, r2, r3, r4) := H
        have A9 := Aside0.mk A90
        clear A90
        by_cases c10 : ((t412 ++ (strOfNums y413)) ++ t416).size + t417.size ≤ 9223372036854775807
        · rw [if_pos c10] at H
          have c10b0 := eq_true c10
          have c10b1 : decide (((t412 ++ (strOfNums y413)) ++ t416).size + t417.size ≤ 9223372036854775807) = true := decide_eq_true c10
          try (have c10b1n := c10b1; simp only [ByteArray.size_append, Int.natCast_add] at c10b1n)
          try have c10b2 : (9223372036854775807 < ((t412 ++ (strOfNums y413)) ++ t416).size + t417.size) = False := eq_false (Nat.not_lt.2 c10)
          have H' := Aside0.mk H
          clear H
          go_enter Try.func52, Try.ntmps52
          try go_wp2_with (first | ((with_reducible refine gate_dst (N := 2) rfl ?_); refine box_event ?hg (N := 2) ?hd (cs := #[.int .u64 0, .int .u64 0, .int .u64 0, .int .u64 0]) (t := 30) ?hr ?_; (case hd => rfl); (case hg => rfl); (case hr => first | (go_simp; done) | (go_simp; rfl)); intro gb411 hg w11 hbox hb; have n0_ := Aside0.mk (below_step (by repeat (first | (with_reducible first | exact HB.out | apply below_alloc | apply pw_below_drewN | apply below_drew1) | exact HB.out)) hb); have n1_ := Aside0.mk (hbox); have n2_ := Aside0.mk ((by rw [hg]; exact (below_size (by repeat (first | (with_reducible first | exact HB.out | apply below_alloc | apply pw_below_drewN | apply below_drew1) | exact HB.out))) : w.heap.size ≤ gb411)); have n3_ := Aside0.mk ((by rw [hg]; exact (below_size (by repeat (first | (with_reducible first | exact HB.out | apply below_alloc | apply pw_below_drewN | apply below_drew1) | exact HB.out))) : w.heap.size ≤ gb411)); clear HB; have HB := n0_; have BK411 := n1_; have GW411 := n2_; have GE411 := n3_; clear n0_ n1_ n2_ n3_; clear hb hbox hg) | ((with_reducible refine gate_callee (f := 97) rfl ?_); refine goesL_ (some 12) rfl rfl Try.func97 (by kernel_rfl) rfl #[.string a0] rfl (by (try simp only [List.map_toArray, List.map_cons, List.map_nil]); first | done | rfl | (simp only [List.length_drop, List.length_take]; rfl)) ?_; (with_reducible refine (spec_l1Bare.calls k a0 t412 _ A5.out).mono ?_); rintro e w12 ⟨rfl, hb⟩; refine ⟨_, rfl, ?_⟩; have n0_ := Aside0.mk (blk_below (g := gb411) (o := .cells #[.int .u64 0, .int .u64 0, .int .u64 0, .int .u64 0] 30 (0, 0)) (by (with_reducible repeat (first | refine blk_drewN ?_ _ | refine blk_drew ?_ | refine blk_alloc ?_ _)); exact BK411.out) hb); have n1_ := Aside0.mk (below_step (by repeat (first | (with_reducible first | exact HB.out | apply below_alloc | apply pw_below_drewN | apply below_drew1 | refine below_set ?_ GE411.out) | exact HB.out)) hb); clear BK411; clear HB; have BK411 := n0_; have HB := n1_; clear n0_ n1_; (try clear hb); (try clear hb2); (try clear hk); (try clear hi)))
          have n0_ := Aside0.mk (blk_drew BK411.out)
          have n1_ := Aside0.mk (below_drew1 HB.out)
          clear BK411
          clear HB
          have BK411 := n0_
          have HB := n1_
          clear n0_ n1_
          refine start_ (n := 13) (S := fun w' => True) (ds := []) #[false, false, false, false, false, false, false, false, false, false, false, false, false] (by kernel_rfl) rfl rfl trivial (fun hHeld => ?_); refine with_tabW spec_HashOf.tab5 spec_HashOf.bits5 (fun HT_ HW_ => ?_)
          generalize w12.drew = w13 at BK411 HB hHeld ⊢
          refine pure_ (i := 0) (N := some 19) (v := ?_) (a' := ?_) #[true, false, false, false, false, false, false, false, false, false, false, false, false] rfl rfl (any_of HT_.out (by kernel_rfl)) (fun _ _ _ h => h) (Or.inl ⟨by rfl, ?_⟩) ?_ ?_
          rotate_left
          · intro w'
            go_simp
            first | with_reducible rfl | (rw [if_neg (by intro h_; (try simp only [ByteArray.size_append, ByteArray.size_extract, eq_iff_iff, iff_true] at *); omega)]; first | done | rfl)
          rotate_left
          · simp only [Act.put, List.setIfInBounds_toArray, List.set_cons_zero, List.set_cons_succ, i64_w, i32_w]
            rfl
          refine pure_ (i := 4) (N := some 23) (v := ?_) (a' := ?_) #[true, false, false, false, true, false, false, false, false, false, false, false, false] rfl rfl (any_of HT_.out (by kernel_rfl)) (fun _ _ _ h => h) (Or.inl ⟨by rfl, ?_⟩) ?_ ?_
          rotate_left
          · intro w'
            go_simp
            first | with_reducible rfl | (rw [if_neg (by intro h_; (try simp only [ByteArray.size_append, ByteArray.size_extract, eq_iff_iff, iff_true] at *); omega)]; first | done | rfl)
          rotate_left
          · simp only [Act.put, List.setIfInBounds_toArray, List.set_cons_zero, List.set_cons_succ, i64_w, i32_w]
            rfl
          refine pure_ (i := 7) (N := some 26) (v := ?_) (a' := ?_) #[true, false, false, false, true, false, false, true, false, false, false, false, false] rfl rfl (any_of HT_.out (by kernel_rfl)) (fun _ _ _ h => h) (Or.inl ⟨by rfl, ?_⟩) ?_ ?_
          rotate_left
          · intro w'
            go_simp
            first | with_reducible rfl | (rw [if_neg (by intro h_; (try simp only [ByteArray.size_append, ByteArray.size_extract, eq_iff_iff, iff_true] at *); omega)]; first | done | rfl)
          rotate_left
          · simp only [Act.put, List.setIfInBounds_toArray, List.set_cons_zero, List.set_cons_succ, i64_w, i32_w]
            rfl
          refine pure_ (i := 8) (N := some 27) (v := ?_) (a' := ?_) #[true, false, false, false, true, false, false, true, true, false, false, false, false] rfl rfl (any_of HT_.out (by kernel_rfl)) (fun _ _ _ h => h) (Or.inl ⟨by rfl, ?_⟩) ?_ ?_
          rotate_left
          · intro w'
            go_simp
            first | with_reducible rfl | (rw [if_neg (by intro h_; (try simp only [ByteArray.size_append, ByteArray.size_extract, eq_iff_iff, iff_true] at *); omega)]; first | done | rfl)
          rotate_left
          · simp only [Act.put, List.setIfInBounds_toArray, List.set_cons_zero, List.set_cons_succ, i64_w, i32_w]
            rfl
          refine pure_ (i := 9) (N := some 28) (v := ?_) (a' := ?_) #[true, false, false, false, true, false, false, true, true, true, false, false, false] rfl rfl (any_of HT_.out (by kernel_rfl)) (fun _ _ _ h => h) (Or.inl ⟨by rfl, ?_⟩) ?_ ?_
          rotate_left
          · intro w'
            go_simp
            first | with_reducible rfl | (rw [if_neg (by intro h_; (try simp only [ByteArray.size_append, ByteArray.size_extract, eq_iff_iff, iff_true] at *); omega)]; first | done | rfl)
          rotate_left
          · simp only [Act.put, List.setIfInBounds_toArray, List.set_cons_zero, List.set_cons_succ, i64_w, i32_w]
            rfl
          refine join_ (σ := Value) 2 #[true, true, true, true, true, true, true, true, true, true, true, false, false] (fun s_ => [(20, s_), (21, .string (strOfNums y413)), (24, .string t416), (29, .string t417), (22, .string (t412 ++ (strOfNums y413))), (25, .string ((t412 ++ (strOfNums y413)) ++ t416))]) (fun s_ w' => (Kd.R (Kd.int .u8) 5 w' w.heap.size (fun _ => True) s_ y413) ∧ (w'.heap[gb411]? = some (.cells #[.int .u64 0, .int .u64 0, .int .u64 0, .int .u64 0] 30 (0, 0))) ∧ (Below w.heap.size w w')) ?_ ?_
          rotate_left
          · intro hJ1_2_5_10
            refine join_ (σ := Value) 3 #[true, true, true, true, true, true, true, true, true, true, false, false, false] (fun s_ => [(20, s_), (21, .string (strOfNums y413)), (24, .string t416), (22, .string (t412 ++ (strOfNums y413))), (25, .string ((t412 ++ (strOfNums y413)) ++ t416))]) (fun s_ w' => (Kd.R (Kd.int .u8) 5 w' w.heap.size (fun _ => True) s_ y413) ∧ (w'.heap[gb411]? = some (.cells #[.int .u64 0, .int .u64 0, .int .u64 0, .int .u64 0] 30 (0, 0))) ∧ (Below w.heap.size w w')) ?_ ?_
            rotate_left
            · intro hJ1_2_5
              refine join_ (σ := Value) 5 #[true, true, false, false, true, true, false, true, true, true, true, false, false] (fun s_ => [(20, s_), (24, .string t416), (29, .string t417)]) (fun s_ w' => (Kd.R (Kd.int .u8) 5 w' w.heap.size (fun _ => True) s_ y413) ∧ (w'.heap[gb411]? = some (.cells #[.int .u64 0, .int .u64 0, .int .u64 0, .int .u64 0] 30 (0, 0))) ∧ (Below w.heap.size w w')) ?_ ?_
              rotate_left
              · intro hJ1_5_10
                refine join_ (σ := Value) 5 #[true, true, true, true, true, false, false, true, true, true, false, false, false] (fun s_ => [(20, s_), (21, .string (strOfNums y413)), (22, .string (t412 ++ (strOfNums y413)))]) (fun s_ w' => (Kd.R (Kd.int .u8) 5 w' w.heap.size (fun _ => True) s_ y413) ∧ (w'.heap[gb411]? = some (.cells #[.int .u64 0, .int .u64 0, .int .u64 0, .int .u64 0] 30 (0, 0))) ∧ (Below w.heap.size w w')) ?_ ?_
                rotate_left
                · intro hJ1_2
                  refine join_ (σ := Value) 6 #[true, true, false, false, true, true, false, true, true, true, false, false, false] (fun s_ => [(20, s_), (24, .string t416)]) (fun s_ w' => (Kd.R (Kd.int .u8) 5 w' w.heap.size (fun _ => True) s_ y413) ∧ (w'.heap[gb411]? = some (.cells #[.int .u64 0, .int .u64 0, .int .u64 0, .int .u64 0] 30 (0, 0))) ∧ (Below w.heap.size w w')) ?_ ?_
                  rotate_left
                  · intro hJ1_5
                    refine join_ (σ := Unit) 6 #[true, false, false, false, true, true, false, true, true, true, true, false, false] (fun s_ => [(24, .string t416), (29, .string t417)]) (fun s_ w' => (w'.heap[gb411]? = some (.cells #[.int .u64 0, .int .u64 0, .int .u64 0, .int .u64 0] 30 (0, 0))) ∧ (Below w.heap.size w w')) ?_ ?_
                    rotate_left
                    · intro hJ5_10
                      refine join_ (σ := Value) 7 #[true, true, false, false, true, false, false, true, true, true, false, false, false] (fun s_ => [(20, s_)]) (fun s_ w' => (Kd.R (Kd.int .u8) 5 w' w.heap.size (fun _ => True) s_ y413) ∧ (w'.heap[gb411]? = some (.cells #[.int .u64 0, .int .u64 0, .int .u64 0, .int .u64 0] 30 (0, 0))) ∧ (Below w.heap.size w w')) ?_ ?_
                      rotate_left
                      · intro hJ1
                        refine join_ (σ := Unit) 7 #[true, false, false, false, true, true, false, true, true, true, false, false, false] (fun s_ => [(24, .string t416)]) (fun s_ w' => (w'.heap[gb411]? = some (.cells #[.int .u64 0, .int .u64 0, .int .u64 0, .int .u64 0] 30 (0, 0))) ∧ (Below w.heap.size w w')) ?_ ?_
                        rotate_left
                        · intro hJ5
                          refine two_ (i := 1) (j := 5) (Ni := some 20) (Nj := some 24) #[true, true, false, false, true, false, false, true, true, true, false, false, false] #[true, false, false, false, true, true, false, true, true, true, false, false, false] rfl rfl rfl rfl (two_of HT_.out (by kernel_rfl)) (by decide) (by decide) (fun K hK => ?_) (fun K hK => ?_)
                          · skip
                            refine Kd.R_lit_step (Kd.int .u8) _ 5 ?hg (N := 20) ?hd (xs := ([128] : List Int)) (inner := [.int .u8 128]) (ok := fun _ => True) (okp := fun _ => True) ?hr ?hp (fun _ hk => hk) trivial (Below.refl _ _) (Nat.le_refl _) (by simp) ?_; (case hd => rfl); (case hg => rfl); (case hr => first | (go_simp; done) | (go_simp; rfl)); (case hp => exact (Reps.one (show Kd.M (Kd.int .u8) _ _ _ 128 [.int .u8 128] from rfl) (Reps.none _ _)))
                            intro v414 w14 ho15 hb hg_ hnew_
                            clear hg_ hnew_
                            (first | rw [← Ny413.out] at ho15 | (simp only [Int.reduceToNat] at ho15; rw [← Ny413.out] at ho15))
                            have n0_ := Aside0.mk (Kd.R_lower ho15 (below_size (by repeat (first | (with_reducible first | exact HB.out | apply below_alloc | apply pw_below_drewN | apply below_drew1 | refine below_set ?_ GE411.out) | exact HB.out))))
                            have n1_ := Aside0.mk (blk_below (g := gb411) (o := .cells #[.int .u64 0, .int .u64 0, .int .u64 0, .int .u64 0] 30 (0, 0)) (by (with_reducible repeat (first | refine blk_drewN ?_ _ | refine blk_drew ?_ | refine blk_alloc ?_ _)); exact BK411.out) hb)
                            have n2_ := Aside0.mk (below_step (by repeat (first | (with_reducible first | exact HB.out | apply below_alloc | apply pw_below_drewN | apply below_drew1 | refine below_set ?_ GE411.out) | exact HB.out)) hb)
                            clear BK411
                            clear HB
                            have HO415 := n0_
                            have BK411 := n1_
                            have HB := n2_
                            clear n0_ n1_ n2_
                            clear hb ho15
                            refine hK.out _ _ trivial (fun hHeld => ?_)
                            clear hK K
                            refine norm_ (a' := ?_) ?_ ?_
                            rotate_left
                            · show Act.put _ (some 20) _ = _
                              simp only [Act.put, List.setIfInBounds_toArray, List.set_cons_zero, List.set_cons_succ, i64_w, i32_w]
                              rfl
                            exact norm_ (by first | (simp only [putAll, Act.put, List.setIfInBounds_toArray, List.set_cons_zero, List.set_cons_succ]; done) | (simp only [putAll, Act.put, List.setIfInBounds_toArray, List.set_cons_zero, List.set_cons_succ]; rfl)) (hJ1 (v414) _ ⟨(by (with_reducible repeat (first | apply Kd.R_alloc | apply Kd.R_drewN | apply Kd.R_drew)); exact HO415.out), (by (with_reducible repeat (first | refine blk_drewN ?_ _ | refine blk_drew ?_ | refine blk_alloc ?_ _)); exact BK411.out), (by repeat (first | (with_reducible first | exact HB.out | apply below_alloc | apply pw_below_drewN | apply below_drew1 | refine below_set ?_ GE411.out) | exact HB.out))⟩)
                          · skip
                            refine goes_ Try.func98 (by kernel_rfl) rfl #[.int .i64 (Int.tmod (wrap64 (32 - (Int.tmod (wrap64 ((t412.size : Int) + 9)) 32))) 32)] (by rfl) rfl rfl (by (try simp only [List.map_toArray, List.map_cons, List.map_nil]); first | done | rfl | (simp only [List.length_drop, List.length_take]; rfl)) ?_
                            with_reducible refine (spec_l1Zeros.calls k (Int.tmod (wrap64 (32 - (Int.tmod (wrap64 ((t412.size : Int) + 9)) 32))) 32) t416 _ A7.out).mono ?_
                            rintro e w14 ⟨rfl, hb⟩
                            refine ⟨_, rfl, ?_⟩
                            have n0_ := Aside0.mk (blk_below (g := gb411) (o := .cells #[.int .u64 0, .int .u64 0, .int .u64 0, .int .u64 0] 30 (0, 0)) (by (with_reducible repeat (first | refine blk_drewN ?_ _ | refine blk_drew ?_ | refine blk_alloc ?_ _)); exact BK411.out) hb)
                            have n1_ := Aside0.mk (below_step (by repeat (first | (with_reducible first | exact HB.out | apply below_alloc | apply pw_below_drewN | apply below_drew1 | refine below_set ?_ GE411.out) | exact HB.out)) hb)
                            clear BK411
                            clear HB
                            have BK411 := n0_
                            have HB := n1_
                            clear n0_ n1_
                            (try clear hb)
                            (try clear hb2)
                            (try clear hk)
                            (try clear hi)
                            refine hK.out _ _ trivial (fun hHeld => ?_)
                            clear hK K
                            refine norm_ (a' := ?_) ?_ ?_
                            rotate_left
                            · show Act.put _ (some 24) _ = _
                              simp only [Act.put, List.setIfInBounds_toArray, List.set_cons_zero, List.set_cons_succ, i64_w, i32_w]
                              rfl
                            exact norm_ (by first | (simp only [putAll, Act.put, List.setIfInBounds_toArray, List.set_cons_zero, List.set_cons_succ]; done) | (simp only [putAll, Act.put, List.setIfInBounds_toArray, List.set_cons_zero, List.set_cons_succ]; rfl)) (hJ5 () _ ⟨(by (with_reducible repeat (first | refine blk_drewN ?_ _ | refine blk_drew ?_ | refine blk_alloc ?_ _)); exact BK411.out), (by repeat (first | (with_reducible first | exact HB.out | apply below_alloc | apply pw_below_drewN | apply below_drew1 | refine below_set ?_ GE411.out) | exact HB.out))⟩)
                        · skip
                          rintro _ w15 ⟨h0_, h1_⟩
                          have n0_ : Aside0 (w15.heap[gb411]? = some (.cells #[.int .u64 0, .int .u64 0, .int .u64 0, .int .u64 0] 30 (0, 0))) := ⟨h0_⟩
                          have n1_ : Aside0 (Below w.heap.size w w15) := ⟨h1_⟩
                          clear BK411
                          clear HB
                          clear h0_ h1_
                          have BK411 := n0_
                          have HB := n1_
                          clear n0_ n1_
                          have hHeld := trivial
                          refine norm_ (a' := ?_) ?_ ?_
                          rotate_left
                          · simp only [putAll, Act.put, List.setIfInBounds_toArray, List.set_cons_zero, List.set_cons_succ]
                            rfl
                          refine two_ (i := 1) (j := 10) (Ni := some 20) (Nj := some 29) #[true, true, false, false, true, true, false, true, true, true, false, false, false] #[true, false, false, false, true, true, false, true, true, true, true, false, false] rfl rfl rfl rfl (two_of HT_.out (by kernel_rfl)) (by decide) (by decide) (fun K hK => ?_) (fun K hK => ?_)
                          · skip
                            refine Kd.R_lit_step (Kd.int .u8) _ 5 ?hg (N := 20) ?hd (xs := ([128] : List Int)) (inner := [.int .u8 128]) (ok := fun _ => True) (okp := fun _ => True) ?hr ?hp (fun _ hk => hk) trivial (Below.refl _ _) (Nat.le_refl _) (by simp) ?_; (case hd => rfl); (case hg => rfl); (case hr => first | (go_simp; done) | (go_simp; rfl)); (case hp => exact (Reps.one (show Kd.M (Kd.int .u8) _ _ _ 128 [.int .u8 128] from rfl) (Reps.none _ _)))
                            intro v414 w16 ho17 hb hg_ hnew_
                            clear hg_ hnew_
                            (first | rw [← Ny413.out] at ho17 | (simp only [Int.reduceToNat] at ho17; rw [← Ny413.out] at ho17))
                            have n0_ := Aside0.mk (Kd.R_lower ho17 (below_size (by repeat (first | (with_reducible first | exact HB.out | apply below_alloc | apply pw_below_drewN | apply below_drew1 | refine below_set ?_ GE411.out) | exact HB.out))))
                            have n1_ := Aside0.mk (blk_below (g := gb411) (o := .cells #[.int .u64 0, .int .u64 0, .int .u64 0, .int .u64 0] 30 (0, 0)) (by (with_reducible repeat (first | refine blk_drewN ?_ _ | refine blk_drew ?_ | refine blk_alloc ?_ _)); exact BK411.out) hb)
                            have n2_ := Aside0.mk (below_step (by repeat (first | (with_reducible first | exact HB.out | apply below_alloc | apply pw_below_drewN | apply below_drew1 | refine below_set ?_ GE411.out) | exact HB.out)) hb)
                            clear BK411
                            clear HB
                            have HO415 := n0_
                            have BK411 := n1_
                            have HB := n2_
                            clear n0_ n1_ n2_
                            clear hb ho17
                            refine hK.out _ _ trivial (fun hHeld => ?_)
                            clear hK K
                            refine norm_ (a' := ?_) ?_ ?_
                            rotate_left
                            · show Act.put _ (some 20) _ = _
                              simp only [Act.put, List.setIfInBounds_toArray, List.set_cons_zero, List.set_cons_succ, i64_w, i32_w]
                              rfl
                            exact norm_ (by first | (simp only [putAll, Act.put, List.setIfInBounds_toArray, List.set_cons_zero, List.set_cons_succ]; done) | (simp only [putAll, Act.put, List.setIfInBounds_toArray, List.set_cons_zero, List.set_cons_succ]; rfl)) (hJ1_5 (v414) _ ⟨(by (with_reducible repeat (first | apply Kd.R_alloc | apply Kd.R_drewN | apply Kd.R_drew)); exact HO415.out), (by (with_reducible repeat (first | refine blk_drewN ?_ _ | refine blk_drew ?_ | refine blk_alloc ?_ _)); exact BK411.out), (by repeat (first | (with_reducible first | exact HB.out | apply below_alloc | apply pw_below_drewN | apply below_drew1 | refine below_set ?_ GE411.out) | exact HB.out))⟩)
                          · skip
                            refine goes_ Try.func82 (by kernel_rfl) rfl #[.int .u64 (IntKind.u64.wrap ((t412.size : Int)))] (by rfl) rfl rfl (by (try simp only [List.map_toArray, List.map_cons, List.map_nil]); first | done | rfl | (simp only [List.length_drop, List.length_take]; rfl)) ?_
                            with_reducible refine (spec_l1Bytes.calls k (IntKind.u64.wrap ((t412.size : Int))) t417 _ A9.out).mono ?_
                            rintro e w16 ⟨rfl, hb⟩
                            refine ⟨_, rfl, ?_⟩
                            have n0_ := Aside0.mk (blk_below (g := gb411) (o := .cells #[.int .u64 0, .int .u64 0, .int .u64 0, .int .u64 0] 30 (0, 0)) (by (with_reducible repeat (first | refine blk_drewN ?_ _ | refine blk_drew ?_ | refine blk_alloc ?_ _)); exact BK411.out) hb)
                            have n1_ := Aside0.mk (below_step (by repeat (first | (with_reducible first | exact HB.out | apply below_alloc | apply pw_below_drewN | apply below_drew1 | refine below_set ?_ GE411.out) | exact HB.out)) hb)
                            clear BK411
                            clear HB
                            have BK411 := n0_
                            have HB := n1_
                            clear n0_ n1_
                            (try clear hb)
                            (try clear hb2)
                            (try clear hk)
                            (try clear hi)
                            refine hK.out _ _ trivial (fun hHeld => ?_)
                            clear hK K
                            refine norm_ (a' := ?_) ?_ ?_
                            rotate_left
                            · show Act.put _ (some 29) _ = _
                              simp only [Act.put, List.setIfInBounds_toArray, List.set_cons_zero, List.set_cons_succ, i64_w, i32_w]
                              rfl
                            exact norm_ (by first | (simp only [putAll, Act.put, List.setIfInBounds_toArray, List.set_cons_zero, List.set_cons_succ]; done) | (simp only [putAll, Act.put, List.setIfInBounds_toArray, List.set_cons_zero, List.set_cons_succ]; rfl)) (hJ5_10 () _ ⟨(by (with_reducible repeat (first | refine blk_drewN ?_ _ | refine blk_drew ?_ | refine blk_alloc ?_ _)); exact BK411.out), (by repeat (first | (with_reducible first | exact HB.out | apply below_alloc | apply pw_below_drewN | apply below_drew1 | refine below_set ?_ GE411.out) | exact HB.out))⟩)
                      · skip
                        rintro v414 w16 ⟨h0_, h1_, h2_⟩
                        have n0_ : Aside0 (Kd.R (Kd.int .u8) 5 w16 w.heap.size (fun _ => True) v414 y413) := ⟨h0_⟩
                        have n1_ : Aside0 (w16.heap[gb411]? = some (.cells #[.int .u64 0, .int .u64 0, .int .u64 0, .int .u64 0] 30 (0, 0))) := ⟨h1_⟩
                        have n2_ : Aside0 (Below w.heap.size w w16) := ⟨h2_⟩
                        clear BK411
                        clear HB
                        clear h0_ h1_ h2_
                        have HO415 := n0_
                        have BK411 := n1_
                        have HB := n2_
                        clear n0_ n1_ n2_
                        have hHeld := trivial
                        refine norm_ (a' := ?_) ?_ ?_
                        rotate_left
                        · simp only [putAll, Act.put, List.setIfInBounds_toArray, List.set_cons_zero, List.set_cons_succ]
                          rfl
                        refine two_ (i := 2) (j := 5) (Ni := some 21) (Nj := some 24) #[true, true, true, false, true, false, false, true, true, true, false, false, false] #[true, true, false, false, true, true, false, true, true, true, false, false, false] rfl rfl rfl rfl (two_of HT_.out (by kernel_rfl)) (by decide) (by decide) (fun K hK => ?_) (fun K hK => ?_)
                        · skip
                          have hcv17 := own_string (P := Try.prog) Try.underlying57 Try.underlying5 Try.underlying9 (Kd.own_of_R HO415.out)
                          refine value_ (w1 := ?_) (v := ?_) (by rfl) rfl ?_ ?_
                          rotate_left 2
                          · go_simp
                            constructor
                            · rfl
                            · rfl
                          clear hcv17
                          refine hK.out _ _ trivial (fun hHeld => ?_)
                          clear hK K
                          refine norm_ (a' := ?_) ?_ ?_
                          rotate_left
                          · show Act.put _ (some 21) _ = _
                            simp only [Act.put, List.setIfInBounds_toArray, List.set_cons_zero, List.set_cons_succ, i64_w, i32_w]
                            rfl
                          refine pure_ (i := 3) (N := some 22) (v := ?_) (a' := ?_) #[true, true, true, true, true, false, false, true, true, true, false, false, false] rfl rfl (any_of HT_.out (by kernel_rfl)) (fun _ _ _ h => h) (Or.inl ⟨by rfl, ?_⟩) ?_ ?_
                          rotate_left
                          · intro w'
                            go_simp
                            first | with_reducible rfl | (rw [if_neg (by intro h_; (try simp only [ByteArray.size_append, ByteArray.size_extract, eq_iff_iff, iff_true] at *); omega)]; first | done | rfl)
                          rotate_left
                          · simp only [Act.put, List.setIfInBounds_toArray, List.set_cons_zero, List.set_cons_succ, i64_w, i32_w]
                            rfl
                          exact norm_ (by first | (simp only [putAll, Act.put, List.setIfInBounds_toArray, List.set_cons_zero, List.set_cons_succ]; done) | (simp only [putAll, Act.put, List.setIfInBounds_toArray, List.set_cons_zero, List.set_cons_succ]; rfl)) (hJ1_2 (v414) _ ⟨(by (with_reducible repeat (first | apply Kd.R_alloc | apply Kd.R_drewN | apply Kd.R_drew)); exact HO415.out), (by (with_reducible repeat (first | refine blk_drewN ?_ _ | refine blk_drew ?_ | refine blk_alloc ?_ _)); exact BK411.out), (by repeat (first | (with_reducible first | exact HB.out | apply below_alloc | apply pw_below_drewN | apply below_drew1 | refine below_set ?_ GE411.out) | exact HB.out))⟩)
                        · skip
                          refine goes_ Try.func98 (by kernel_rfl) rfl #[.int .i64 (Int.tmod (wrap64 (32 - (Int.tmod (wrap64 ((t412.size : Int) + 9)) 32))) 32)] (by rfl) rfl rfl (by (try simp only [List.map_toArray, List.map_cons, List.map_nil]); first | done | rfl | (simp only [List.length_drop, List.length_take]; rfl)) ?_
                          with_reducible refine (spec_l1Zeros.calls k (Int.tmod (wrap64 (32 - (Int.tmod (wrap64 ((t412.size : Int) + 9)) 32))) 32) t416 _ A7.out).mono ?_
                          rintro e w17 ⟨rfl, hb⟩
                          refine ⟨_, rfl, ?_⟩
                          have n0_ := Aside0.mk (Kd.R_below (by (with_reducible repeat (first | apply Kd.R_alloc | apply Kd.R_drewN | apply Kd.R_drew)); exact HO415.out) hb)
                          have n1_ := Aside0.mk (blk_below (g := gb411) (o := .cells #[.int .u64 0, .int .u64 0, .int .u64 0, .int .u64 0] 30 (0, 0)) (by (with_reducible repeat (first | refine blk_drewN ?_ _ | refine blk_drew ?_ | refine blk_alloc ?_ _)); exact BK411.out) hb)
                          have n2_ := Aside0.mk (below_step (by repeat (first | (with_reducible first | exact HB.out | apply below_alloc | apply pw_below_drewN | apply below_drew1 | refine below_set ?_ GE411.out) | exact HB.out)) hb)
                          clear HO415
                          clear BK411
                          clear HB
                          have HO415 := n0_
                          have BK411 := n1_
                          have HB := n2_
                          clear n0_ n1_ n2_
                          (try clear hb)
                          (try clear hb2)
                          (try clear hk)
                          (try clear hi)
                          refine hK.out _ _ trivial (fun hHeld => ?_)
                          clear hK K
                          refine norm_ (a' := ?_) ?_ ?_
                          rotate_left
                          · show Act.put _ (some 24) _ = _
                            simp only [Act.put, List.setIfInBounds_toArray, List.set_cons_zero, List.set_cons_succ, i64_w, i32_w]
                            rfl
                          exact norm_ (by first | (simp only [putAll, Act.put, List.setIfInBounds_toArray, List.set_cons_zero, List.set_cons_succ]; done) | (simp only [putAll, Act.put, List.setIfInBounds_toArray, List.set_cons_zero, List.set_cons_succ]; rfl)) (hJ1_5 (v414) _ ⟨(by (with_reducible repeat (first | apply Kd.R_alloc | apply Kd.R_drewN | apply Kd.R_drew)); exact HO415.out), (by (with_reducible repeat (first | refine blk_drewN ?_ _ | refine blk_drew ?_ | refine blk_alloc ?_ _)); exact BK411.out), (by repeat (first | (with_reducible first | exact HB.out | apply below_alloc | apply pw_below_drewN | apply below_drew1 | refine below_set ?_ GE411.out) | exact HB.out))⟩)
                    · skip
                      rintro _ w16 ⟨h0_, h1_⟩
                      have n0_ : Aside0 (w16.heap[gb411]? = some (.cells #[.int .u64 0, .int .u64 0, .int .u64 0, .int .u64 0] 30 (0, 0))) := ⟨h0_⟩
                      have n1_ : Aside0 (Below w.heap.size w w16) := ⟨h1_⟩
                      clear BK411
                      clear HB
                      clear h0_ h1_
                      have BK411 := n0_
                      have HB := n1_
                      clear n0_ n1_
                      have hHeld := trivial
                      refine norm_ (a' := ?_) ?_ ?_
                      rotate_left
                      · simp only [putAll, Act.put, List.setIfInBounds_toArray, List.set_cons_zero, List.set_cons_succ]
                        rfl
                      refine one_ (i := 1) (N := some 20) #[true, true, false, false, true, true, false, true, true, true, true, false, false] rfl rfl (one_of HT_.out (by kernel_rfl)) (by decide) (fun K hK => ?_)
                      refine Kd.R_lit_step (Kd.int .u8) _ 5 ?hg (N := 20) ?hd (xs := ([128] : List Int)) (inner := [.int .u8 128]) (ok := fun _ => True) (okp := fun _ => True) ?hr ?hp (fun _ hk => hk) trivial (Below.refl _ _) (Nat.le_refl _) (by simp) ?_; (case hd => rfl); (case hg => rfl); (case hr => first | (go_simp; done) | (go_simp; rfl)); (case hp => exact (Reps.one (show Kd.M (Kd.int .u8) _ _ _ 128 [.int .u8 128] from rfl) (Reps.none _ _)))
                      intro v414 w17 ho18 hb hg_ hnew_
                      clear hg_ hnew_
                      (first | rw [← Ny413.out] at ho18 | (simp only [Int.reduceToNat] at ho18; rw [← Ny413.out] at ho18))
                      have n0_ := Aside0.mk (Kd.R_lower ho18 (below_size (by repeat (first | (with_reducible first | exact HB.out | apply below_alloc | apply pw_below_drewN | apply below_drew1 | refine below_set ?_ GE411.out) | exact HB.out))))
                      have n1_ := Aside0.mk (blk_below (g := gb411) (o := .cells #[.int .u64 0, .int .u64 0, .int .u64 0, .int .u64 0] 30 (0, 0)) (by (with_reducible repeat (first | refine blk_drewN ?_ _ | refine blk_drew ?_ | refine blk_alloc ?_ _)); exact BK411.out) hb)
                      have n2_ := Aside0.mk (below_step (by repeat (first | (with_reducible first | exact HB.out | apply below_alloc | apply pw_below_drewN | apply below_drew1 | refine below_set ?_ GE411.out) | exact HB.out)) hb)
                      clear BK411
                      clear HB
                      have HO415 := n0_
                      have BK411 := n1_
                      have HB := n2_
                      clear n0_ n1_ n2_
                      clear hb ho18
                      refine hK.out _ _ trivial (fun hHeld => ?_)
                      clear hK K
                      refine norm_ (a' := ?_) ?_ ?_
                      rotate_left
                      · show Act.put _ (some 20) _ = _
                        simp only [Act.put, List.setIfInBounds_toArray, List.set_cons_zero, List.set_cons_succ, i64_w, i32_w]
                        rfl
                      exact norm_ (by first | (simp only [putAll, Act.put, List.setIfInBounds_toArray, List.set_cons_zero, List.set_cons_succ]; done) | (simp only [putAll, Act.put, List.setIfInBounds_toArray, List.set_cons_zero, List.set_cons_succ]; rfl)) (hJ1_5_10 (v414) _ ⟨(by (with_reducible repeat (first | apply Kd.R_alloc | apply Kd.R_drewN | apply Kd.R_drew)); exact HO415.out), (by (with_reducible repeat (first | refine blk_drewN ?_ _ | refine blk_drew ?_ | refine blk_alloc ?_ _)); exact BK411.out), (by repeat (first | (with_reducible first | exact HB.out | apply below_alloc | apply pw_below_drewN | apply below_drew1 | refine below_set ?_ GE411.out) | exact HB.out))⟩)
                  · skip
                    rintro v414 w17 ⟨h0_, h1_, h2_⟩
                    have n0_ : Aside0 (Kd.R (Kd.int .u8) 5 w17 w.heap.size (fun _ => True) v414 y413) := ⟨h0_⟩
                    have n1_ : Aside0 (w17.heap[gb411]? = some (.cells #[.int .u64 0, .int .u64 0, .int .u64 0, .int .u64 0] 30 (0, 0))) := ⟨h1_⟩
                    have n2_ : Aside0 (Below w.heap.size w w17) := ⟨h2_⟩
                    clear BK411
                    clear HB
                    clear h0_ h1_ h2_
                    have HO415 := n0_
                    have BK411 := n1_
                    have HB := n2_
                    clear n0_ n1_ n2_
                    have hHeld := trivial
                    refine norm_ (a' := ?_) ?_ ?_
                    rotate_left
                    · simp only [putAll, Act.put, List.setIfInBounds_toArray, List.set_cons_zero, List.set_cons_succ]
                      rfl
                    refine two_ (i := 2) (j := 10) (Ni := some 21) (Nj := some 29) #[true, true, true, false, true, true, false, true, true, true, false, false, false] #[true, true, false, false, true, true, false, true, true, true, true, false, false] rfl rfl rfl rfl (two_of HT_.out (by kernel_rfl)) (by decide) (by decide) (fun K hK => ?_) (fun K hK => ?_)
                    · skip
                      have hcv18 := own_string (P := Try.prog) Try.underlying57 Try.underlying5 Try.underlying9 (Kd.own_of_R HO415.out)
                      refine value_ (w1 := ?_) (v := ?_) (by rfl) rfl ?_ ?_
                      rotate_left 2
                      · go_simp
                        constructor
                        · rfl
                        · rfl
                      clear hcv18
                      refine hK.out _ _ trivial (fun hHeld => ?_)
                      clear hK K
                      refine norm_ (a' := ?_) ?_ ?_
                      rotate_left
                      · show Act.put _ (some 21) _ = _
                        simp only [Act.put, List.setIfInBounds_toArray, List.set_cons_zero, List.set_cons_succ, i64_w, i32_w]
                        rfl
                      refine pure_ (i := 3) (N := some 22) (v := ?_) (a' := ?_) #[true, true, true, true, true, true, false, true, true, true, false, false, false] rfl rfl (any_of HT_.out (by kernel_rfl)) (fun _ _ _ h => h) (Or.inl ⟨by rfl, ?_⟩) ?_ ?_
                      rotate_left
                      · intro w'
                        go_simp
                        first | with_reducible rfl | (rw [if_neg (by intro h_; (try simp only [ByteArray.size_append, ByteArray.size_extract, eq_iff_iff, iff_true] at *); omega)]; first | done | rfl)
                      rotate_left
                      · simp only [Act.put, List.setIfInBounds_toArray, List.set_cons_zero, List.set_cons_succ, i64_w, i32_w]
                        rfl
                      refine pure_ (i := 6) (N := some 25) (v := ?_) (a' := ?_) #[true, true, true, true, true, true, true, true, true, true, false, false, false] rfl rfl (any_of HT_.out (by kernel_rfl)) (fun _ _ _ h => h) (Or.inl ⟨by rfl, ?_⟩) ?_ ?_
                      rotate_left
                      · intro w'
                        go_simp
                        first | with_reducible rfl | (rw [if_neg (by intro h_; (try simp only [ByteArray.size_append, ByteArray.size_extract, eq_iff_iff, iff_true] at *); omega)]; first | done | rfl)
                      rotate_left
                      · simp only [Act.put, List.setIfInBounds_toArray, List.set_cons_zero, List.set_cons_succ, i64_w, i32_w]
                        rfl
                      exact norm_ (by first | (simp only [putAll, Act.put, List.setIfInBounds_toArray, List.set_cons_zero, List.set_cons_succ]; done) | (simp only [putAll, Act.put, List.setIfInBounds_toArray, List.set_cons_zero, List.set_cons_succ]; rfl)) (hJ1_2_5 (v414) _ ⟨(by (with_reducible repeat (first | apply Kd.R_alloc | apply Kd.R_drewN | apply Kd.R_drew)); exact HO415.out), (by (with_reducible repeat (first | refine blk_drewN ?_ _ | refine blk_drew ?_ | refine blk_alloc ?_ _)); exact BK411.out), (by repeat (first | (with_reducible first | exact HB.out | apply below_alloc | apply pw_below_drewN | apply below_drew1 | refine below_set ?_ GE411.out) | exact HB.out))⟩)
                    · skip
                      refine goes_ Try.func82 (by kernel_rfl) rfl #[.int .u64 (IntKind.u64.wrap ((t412.size : Int)))] (by rfl) rfl rfl (by (try simp only [List.map_toArray, List.map_cons, List.map_nil]); first | done | rfl | (simp only [List.length_drop, List.length_take]; rfl)) ?_
                      with_reducible refine (spec_l1Bytes.calls k (IntKind.u64.wrap ((t412.size : Int))) t417 _ A9.out).mono ?_
                      rintro e w18 ⟨rfl, hb⟩
                      refine ⟨_, rfl, ?_⟩
                      have n0_ := Aside0.mk (Kd.R_below (by (with_reducible repeat (first | apply Kd.R_alloc | apply Kd.R_drewN | apply Kd.R_drew)); exact HO415.out) hb)
                      have n1_ := Aside0.mk (blk_below (g := gb411) (o := .cells #[.int .u64 0, .int .u64 0, .int .u64 0, .int .u64 0] 30 (0, 0)) (by (with_reducible repeat (first | refine blk_drewN ?_ _ | refine blk_drew ?_ | refine blk_alloc ?_ _)); exact BK411.out) hb)
                      have n2_ := Aside0.mk (below_step (by repeat (first | (with_reducible first | exact HB.out | apply below_alloc | apply pw_below_drewN | apply below_drew1 | refine below_set ?_ GE411.out) | exact HB.out)) hb)
                      clear HO415
                      clear BK411
                      clear HB
                      have HO415 := n0_
                      have BK411 := n1_
                      have HB := n2_
                      clear n0_ n1_ n2_
                      (try clear hb)
                      (try clear hb2)
                      (try clear hk)
                      (try clear hi)
                      refine hK.out _ _ trivial (fun hHeld => ?_)
                      clear hK K
                      refine norm_ (a' := ?_) ?_ ?_
                      rotate_left
                      · show Act.put _ (some 29) _ = _
                        simp only [Act.put, List.setIfInBounds_toArray, List.set_cons_zero, List.set_cons_succ, i64_w, i32_w]
                        rfl
                      exact norm_ (by first | (simp only [putAll, Act.put, List.setIfInBounds_toArray, List.set_cons_zero, List.set_cons_succ]; done) | (simp only [putAll, Act.put, List.setIfInBounds_toArray, List.set_cons_zero, List.set_cons_succ]; rfl)) (hJ1_5_10 (v414) _ ⟨(by (with_reducible repeat (first | apply Kd.R_alloc | apply Kd.R_drewN | apply Kd.R_drew)); exact HO415.out), (by (with_reducible repeat (first | refine blk_drewN ?_ _ | refine blk_drew ?_ | refine blk_alloc ?_ _)); exact BK411.out), (by repeat (first | (with_reducible first | exact HB.out | apply below_alloc | apply pw_below_drewN | apply below_drew1 | refine below_set ?_ GE411.out) | exact HB.out))⟩)
                · skip
                  rintro v414 w17 ⟨h0_, h1_, h2_⟩
                  have n0_ : Aside0 (Kd.R (Kd.int .u8) 5 w17 w.heap.size (fun _ => True) v414 y413) := ⟨h0_⟩
                  have n1_ : Aside0 (w17.heap[gb411]? = some (.cells #[.int .u64 0, .int .u64 0, .int .u64 0, .int .u64 0] 30 (0, 0))) := ⟨h1_⟩
                  have n2_ : Aside0 (Below w.heap.size w w17) := ⟨h2_⟩
                  clear BK411
                  clear HB
                  clear h0_ h1_ h2_
                  have HO415 := n0_
                  have BK411 := n1_
                  have HB := n2_
                  clear n0_ n1_ n2_
                  have hHeld := trivial
                  refine norm_ (a' := ?_) ?_ ?_
                  rotate_left
                  · simp only [putAll, Act.put, List.setIfInBounds_toArray, List.set_cons_zero, List.set_cons_succ]
                    rfl
                  refine one_ (i := 5) (N := some 24) #[true, true, true, true, true, true, false, true, true, true, false, false, false] rfl rfl (one_of HT_.out (by kernel_rfl)) (by decide) (fun K hK => ?_)
                  refine goes_ Try.func98 (by kernel_rfl) rfl #[.int .i64 (Int.tmod (wrap64 (32 - (Int.tmod (wrap64 ((t412.size : Int) + 9)) 32))) 32)] (by rfl) rfl rfl (by (try simp only [List.map_toArray, List.map_cons, List.map_nil]); first | done | rfl | (simp only [List.length_drop, List.length_take]; rfl)) ?_
                  with_reducible refine (spec_l1Zeros.calls k (Int.tmod (wrap64 (32 - (Int.tmod (wrap64 ((t412.size : Int) + 9)) 32))) 32) t416 _ A7.out).mono ?_
                  rintro e w18 ⟨rfl, hb⟩
                  refine ⟨_, rfl, ?_⟩
                  have n0_ := Aside0.mk (Kd.R_below (by (with_reducible repeat (first | apply Kd.R_alloc | apply Kd.R_drewN | apply Kd.R_drew)); exact HO415.out) hb)
                  have n1_ := Aside0.mk (blk_below (g := gb411) (o := .cells #[.int .u64 0, .int .u64 0, .int .u64 0, .int .u64 0] 30 (0, 0)) (by (with_reducible repeat (first | refine blk_drewN ?_ _ | refine blk_drew ?_ | refine blk_alloc ?_ _)); exact BK411.out) hb)
                  have n2_ := Aside0.mk (below_step (by repeat (first | (with_reducible first | exact HB.out | apply below_alloc | apply pw_below_drewN | apply below_drew1 | refine below_set ?_ GE411.out) | exact HB.out)) hb)
                  clear HO415
                  clear BK411
                  clear HB
                  have HO415 := n0_
                  have BK411 := n1_
                  have HB := n2_
                  clear n0_ n1_ n2_
                  (try clear hb)
                  (try clear hb2)
                  (try clear hk)
                  (try clear hi)
                  refine hK.out _ _ trivial (fun hHeld => ?_)
                  clear hK K
                  refine norm_ (a' := ?_) ?_ ?_
                  rotate_left
                  · show Act.put _ (some 24) _ = _
                    simp only [Act.put, List.setIfInBounds_toArray, List.set_cons_zero, List.set_cons_succ, i64_w, i32_w]
                    rfl
                  refine pure_ (i := 6) (N := some 25) (v := ?_) (a' := ?_) #[true, true, true, true, true, true, true, true, true, true, false, false, false] rfl rfl (any_of HT_.out (by kernel_rfl)) (fun _ _ _ h => h) (Or.inl ⟨by rfl, ?_⟩) ?_ ?_
                  rotate_left
                  · intro w'
                    go_simp
                    first | with_reducible rfl | (rw [if_neg (by intro h_; (try simp only [ByteArray.size_append, ByteArray.size_extract, eq_iff_iff, iff_true] at *); omega)]; first | done | rfl)
                  rotate_left
                  · simp only [Act.put, List.setIfInBounds_toArray, List.set_cons_zero, List.set_cons_succ, i64_w, i32_w]
                    rfl
                  exact norm_ (by first | (simp only [putAll, Act.put, List.setIfInBounds_toArray, List.set_cons_zero, List.set_cons_succ]; done) | (simp only [putAll, Act.put, List.setIfInBounds_toArray, List.set_cons_zero, List.set_cons_succ]; rfl)) (hJ1_2_5 (v414) _ ⟨(by (with_reducible repeat (first | apply Kd.R_alloc | apply Kd.R_drewN | apply Kd.R_drew)); exact HO415.out), (by (with_reducible repeat (first | refine blk_drewN ?_ _ | refine blk_drew ?_ | refine blk_alloc ?_ _)); exact BK411.out), (by repeat (first | (with_reducible first | exact HB.out | apply below_alloc | apply pw_below_drewN | apply below_drew1 | refine below_set ?_ GE411.out) | exact HB.out))⟩)
              · skip
                rintro v414 w18 ⟨h0_, h1_, h2_⟩
                have n0_ : Aside0 (Kd.R (Kd.int .u8) 5 w18 w.heap.size (fun _ => True) v414 y413) := ⟨h0_⟩
                have n1_ : Aside0 (w18.heap[gb411]? = some (.cells #[.int .u64 0, .int .u64 0, .int .u64 0, .int .u64 0] 30 (0, 0))) := ⟨h1_⟩
                have n2_ : Aside0 (Below w.heap.size w w18) := ⟨h2_⟩
                clear BK411
                clear HB
                clear h0_ h1_ h2_
                have HO415 := n0_
                have BK411 := n1_
                have HB := n2_
                clear n0_ n1_ n2_
                have hHeld := trivial
                refine norm_ (a' := ?_) ?_ ?_
                rotate_left
                · simp only [putAll, Act.put, List.setIfInBounds_toArray, List.set_cons_zero, List.set_cons_succ]
                  rfl
                refine one_ (i := 2) (N := some 21) #[true, true, true, false, true, true, false, true, true, true, true, false, false] rfl rfl (one_of HT_.out (by kernel_rfl)) (by decide) (fun K hK => ?_)
                have hcv19 := own_string (P := Try.prog) Try.underlying57 Try.underlying5 Try.underlying9 (Kd.own_of_R HO415.out)
                refine value_ (w1 := ?_) (v := ?_) (by rfl) rfl ?_ ?_
                rotate_left 2
                · go_simp
                  constructor
                  · rfl
                  · rfl
                clear hcv19
                refine hK.out _ _ trivial (fun hHeld => ?_)
                clear hK K
                refine norm_ (a' := ?_) ?_ ?_
                rotate_left
                · show Act.put _ (some 21) _ = _
                  simp only [Act.put, List.setIfInBounds_toArray, List.set_cons_zero, List.set_cons_succ, i64_w, i32_w]
                  rfl
                refine pure_ (i := 3) (N := some 22) (v := ?_) (a' := ?_) #[true, true, true, true, true, true, false, true, true, true, true, false, false] rfl rfl (any_of HT_.out (by kernel_rfl)) (fun _ _ _ h => h) (Or.inl ⟨by rfl, ?_⟩) ?_ ?_
                rotate_left
                · intro w'
                  go_simp
                  first | with_reducible rfl | (rw [if_neg (by intro h_; (try simp only [ByteArray.size_append, ByteArray.size_extract, eq_iff_iff, iff_true] at *); omega)]; first | done | rfl)
                rotate_left
                · simp only [Act.put, List.setIfInBounds_toArray, List.set_cons_zero, List.set_cons_succ, i64_w, i32_w]
                  rfl
                refine pure_ (i := 6) (N := some 25) (v := ?_) (a' := ?_) #[true, true, true, true, true, true, true, true, true, true, true, false, false] rfl rfl (any_of HT_.out (by kernel_rfl)) (fun _ _ _ h => h) (Or.inl ⟨by rfl, ?_⟩) ?_ ?_
                rotate_left
                · intro w'
                  go_simp
                  first | with_reducible rfl | (rw [if_neg (by intro h_; (try simp only [ByteArray.size_append, ByteArray.size_extract, eq_iff_iff, iff_true] at *); omega)]; first | done | rfl)
                rotate_left
                · simp only [Act.put, List.setIfInBounds_toArray, List.set_cons_zero, List.set_cons_succ, i64_w, i32_w]
                  rfl
                exact norm_ (by first | (simp only [putAll, Act.put, List.setIfInBounds_toArray, List.set_cons_zero, List.set_cons_succ]; done) | (simp only [putAll, Act.put, List.setIfInBounds_toArray, List.set_cons_zero, List.set_cons_succ]; rfl)) (hJ1_2_5_10 (v414) _ ⟨(by (with_reducible repeat (first | apply Kd.R_alloc | apply Kd.R_drewN | apply Kd.R_drew)); exact HO415.out), (by (with_reducible repeat (first | refine blk_drewN ?_ _ | refine blk_drew ?_ | refine blk_alloc ?_ _)); exact BK411.out), (by repeat (first | (with_reducible first | exact HB.out | apply below_alloc | apply pw_below_drewN | apply below_drew1 | refine below_set ?_ GE411.out) | exact HB.out))⟩)
            · skip
              rintro v414 w18 ⟨h0_, h1_, h2_⟩
              have n0_ : Aside0 (Kd.R (Kd.int .u8) 5 w18 w.heap.size (fun _ => True) v414 y413) := ⟨h0_⟩
              have n1_ : Aside0 (w18.heap[gb411]? = some (.cells #[.int .u64 0, .int .u64 0, .int .u64 0, .int .u64 0] 30 (0, 0))) := ⟨h1_⟩
              have n2_ : Aside0 (Below w.heap.size w w18) := ⟨h2_⟩
              clear BK411
              clear HB
              clear h0_ h1_ h2_
              have HO415 := n0_
              have BK411 := n1_
              have HB := n2_
              clear n0_ n1_ n2_
              have hHeld := trivial
              refine norm_ (a' := ?_) ?_ ?_
              rotate_left
              · simp only [putAll, Act.put, List.setIfInBounds_toArray, List.set_cons_zero, List.set_cons_succ]
                rfl
              refine one_ (i := 10) (N := some 29) #[true, true, true, true, true, true, true, true, true, true, true, false, false] rfl rfl (one_of HT_.out (by kernel_rfl)) (by decide) (fun K hK => ?_)
              refine goes_ Try.func82 (by kernel_rfl) rfl #[.int .u64 (IntKind.u64.wrap ((t412.size : Int)))] (by rfl) rfl rfl (by (try simp only [List.map_toArray, List.map_cons, List.map_nil]); first | done | rfl | (simp only [List.length_drop, List.length_take]; rfl)) ?_
              with_reducible refine (spec_l1Bytes.calls k (IntKind.u64.wrap ((t412.size : Int))) t417 _ A9.out).mono ?_
              rintro e w19 ⟨rfl, hb⟩
              refine ⟨_, rfl, ?_⟩
              have n0_ := Aside0.mk (Kd.R_below (by (with_reducible repeat (first | apply Kd.R_alloc | apply Kd.R_drewN | apply Kd.R_drew)); exact HO415.out) hb)
              have n1_ := Aside0.mk (blk_below (g := gb411) (o := .cells #[.int .u64 0, .int .u64 0, .int .u64 0, .int .u64 0] 30 (0, 0)) (by (with_reducible repeat (first | refine blk_drewN ?_ _ | refine blk_drew ?_ | refine blk_alloc ?_ _)); exact BK411.out) hb)
              have n2_ := Aside0.mk (below_step (by repeat (first | (with_reducible first | exact HB.out | apply below_alloc | apply pw_below_drewN | apply below_drew1 | refine below_set ?_ GE411.out) | exact HB.out)) hb)
              clear HO415
              clear BK411
              clear HB
              have HO415 := n0_
              have BK411 := n1_
              have HB := n2_
              clear n0_ n1_ n2_
              (try clear hb)
              (try clear hb2)
              (try clear hk)
              (try clear hi)
              refine hK.out _ _ trivial (fun hHeld => ?_)
              clear hK K
              refine norm_ (a' := ?_) ?_ ?_
              rotate_left
              · show Act.put _ (some 29) _ = _
                simp only [Act.put, List.setIfInBounds_toArray, List.set_cons_zero, List.set_cons_succ, i64_w, i32_w]
                rfl
              exact norm_ (by first | (simp only [putAll, Act.put, List.setIfInBounds_toArray, List.set_cons_zero, List.set_cons_succ]; done) | (simp only [putAll, Act.put, List.setIfInBounds_toArray, List.set_cons_zero, List.set_cons_succ]; rfl)) (hJ1_2_5_10 (v414) _ ⟨(by (with_reducible repeat (first | apply Kd.R_alloc | apply Kd.R_drewN | apply Kd.R_drew)); exact HO415.out), (by (with_reducible repeat (first | refine blk_drewN ?_ _ | refine blk_drew ?_ | refine blk_alloc ?_ _)); exact BK411.out), (by repeat (first | (with_reducible first | exact HB.out | apply below_alloc | apply pw_below_drewN | apply below_drew1 | refine below_set ?_ GE411.out) | exact HB.out))⟩)
          rintro v414 w19 ⟨h0_, h1_, h2_⟩
          have n0_ : Aside0 (Kd.R (Kd.int .u8) 5 w19 w.heap.size (fun _ => True) v414 y413) := ⟨h0_⟩
          have n1_ : Aside0 (w19.heap[gb411]? = some (.cells #[.int .u64 0, .int .u64 0, .int .u64 0, .int .u64 0] 30 (0, 0))) := ⟨h1_⟩
          have n2_ : Aside0 (Below w.heap.size w w19) := ⟨h2_⟩
          clear BK411
          clear HB
          clear h0_ h1_ h2_
          have HO415 := n0_
          have BK411 := n1_
          have HB := n2_
          clear n0_ n1_ n2_
          have hHeld := trivial
          refine norm_ (a' := ?_) ?_ ?_
          rotate_left
          · simp only [putAll, Act.put, List.setIfInBounds_toArray, List.set_cons_zero, List.set_cons_succ]
            rfl
          refine pure_ (i := 11) (N := some 30) (v := ?_) (a' := ?_) #[true, true, true, true, true, true, true, true, true, true, true, true, false] rfl rfl (any_of HT_.out (by kernel_rfl)) (fun _ _ _ h => h) (Or.inl ⟨by rfl, ?_⟩) ?_ ?_
          rotate_left
          · intro w'
            go_simp
            first | with_reducible rfl | (rw [if_neg (by intro h_; (try simp only [ByteArray.size_append, ByteArray.size_extract, eq_iff_iff, iff_true] at *); omega)]; first | done | rfl)
          rotate_left
          · simp only [Act.put, List.setIfInBounds_toArray, List.set_cons_zero, List.set_cons_succ, i64_w, i32_w]
            rfl
          refine pure_ (i := 12) (N := some 4) (v := ?_) (a' := ?_) #[true, true, true, true, true, true, true, true, true, true, true, true, true] rfl rfl (any_of HT_.out (by kernel_rfl)) (fun _ _ _ h => h) (Or.inl ⟨by rfl, ?_⟩) ?_ ?_
          rotate_left
          · intro w'
            go_simp
            first | with_reducible rfl | (rw [if_neg (by intro h_; (try simp only [ByteArray.size_append, ByteArray.size_extract, eq_iff_iff, iff_true] at *); omega)]; first | done | rfl)
          rotate_left
          · simp only [Act.put, List.setIfInBounds_toArray, List.set_cons_zero, List.set_cons_succ, i64_w, i32_w]
            rfl
          refine done_ (done_of HT_.out (by kernel_rfl)) ?_
          try go_wp2_with (first | ((with_reducible refine gate_dst (N := 5) rfl ?_); refine box_event ?hg (N := 5) ?hd (cs := #[.int .u64 0, .int .u64 0, .int .u64 0, .int .u64 0]) (t := 30) ?hr ?_; (case hd => rfl); (case hg => rfl); (case hr => first | (go_simp; done) | (go_simp; rfl)); intro gb418 hg w20 hbox hb; have n0_ := Aside0.mk (Kd.R_below (by (with_reducible repeat (first | apply Kd.R_alloc | apply Kd.R_drewN | apply Kd.R_drew)); exact HO415.out) hb); have n1_ := Aside0.mk (blk_below (g := gb411) (o := .cells #[.int .u64 0, .int .u64 0, .int .u64 0, .int .u64 0] 30 (0, 0)) (by (with_reducible repeat (first | refine blk_drewN ?_ _ | refine blk_drew ?_ | refine blk_alloc ?_ _)); exact BK411.out) hb); have n2_ := Aside0.mk (below_step (by repeat (first | (with_reducible first | exact HB.out | apply below_alloc | apply pw_below_drewN | apply below_drew1 | refine below_set ?_ GE411.out) | exact HB.out)) hb); have n3_ := Aside0.mk (hbox); have n4_ := Aside0.mk ((by rw [hg]; exact (below_size (by repeat (first | (with_reducible first | exact HB.out | apply below_alloc | apply pw_below_drewN | apply below_drew1 | refine below_set ?_ GE411.out) | exact HB.out))) : w.heap.size ≤ gb418)); have n5_ := Aside0.mk ((by rw [hg]; exact (below_size (by repeat (first | (with_reducible first | exact HB.out | apply below_alloc | apply pw_below_drewN | apply below_drew1 | refine below_set ?_ GE411.out) | exact HB.out))) : w.heap.size ≤ gb418)); have n6_ := Aside0.mk ((by rw [hg]; exact Nat.ne_of_lt (blk_lt (g := gb411) (o := .cells #[.int .u64 0, .int .u64 0, .int .u64 0, .int .u64 0] 30 (0, 0)) (by (with_reducible repeat (first | refine blk_drewN ?_ _ | refine blk_drew ?_ | refine blk_alloc ?_ _)); exact BK411.out)) : gb411 ≠ gb418)); have n7_ := Aside0.mk ((by rw [hg]; exact Nat.ne_of_gt (blk_lt (g := gb411) (o := .cells #[.int .u64 0, .int .u64 0, .int .u64 0, .int .u64 0] 30 (0, 0)) (by (with_reducible repeat (first | refine blk_drewN ?_ _ | refine blk_drew ?_ | refine blk_alloc ?_ _)); exact BK411.out)) : gb418 ≠ gb411)); clear HO415; clear BK411; clear HB; have HO415 := n0_; have BK411 := n1_; have HB := n2_; have BK418 := n3_; have GW418 := n4_; have GE418 := n5_; have NB411_418 := n6_; have NB418_411 := n7_; clear n0_ n1_ n2_ n3_ n4_ n5_ n6_ n7_; clear hb hbox hg; have hnb21 := NB418_411.out; have hnc21 := NB411_418.out; have hcz22_0 : w20.cell? ⟨gb418, 0, none⟩ = some (.int .u64 0) := (blk_cell BK418.out 0).trans rfl; have hcz22_1 : w20.cell? ⟨gb418, 1, none⟩ = some (.int .u64 0) := (blk_cell BK418.out 1).trans rfl; have hcz22_2 : w20.cell? ⟨gb418, 2, none⟩ = some (.int .u64 0) := (blk_cell BK418.out 2).trans rfl; have hcz22_3 : w20.cell? ⟨gb418, 3, none⟩ = some (.int .u64 0) := (blk_cell BK418.out 3).trans rfl; have hfz22_0 := blk_frozen BK418.out 0; have hfz22_1 := blk_frozen BK418.out 1; have hfz22_2 := blk_frozen BK418.out 2; have hfz22_3 := blk_frozen BK418.out 3))
          go_loopg [6] k (fun kq v6 w' => ∃ (x6_1 : Int) (x419000_1 : Int) (x419001_1 : Int) (x419002_1 : Int) (x419003_1 : Int), v6 = .int .i64 x6_1 ∧ Aside0 (spec_HashOf.l0 kq (((t412 ++ (strOfNums y413)) ++ t416) ++ t417) x6_1 x419000_1 x419001_1 x419002_1 x419003_1 = some (r1, r2, r3, r4)) ∧ Aside0 (kq ≤ k) ∧ Aside0 (w'.heap[gb411]? = some (.cells #[.int .u64 0, .int .u64 0, .int .u64 0, .int .u64 0] 30 (0, 0))) ∧ Aside0 (w'.heap[gb418]? = some (.cells #[.int .u64 x419000_1, .int .u64 x419001_1, .int .u64 x419002_1, .int .u64 x419003_1] 30 (0, 0))) ∧ Aside0 (Below w.heap.size w w'))
          case atStart => exact ⟨(0), (13971524466476933880), (3286059910148148165), (8210247237615983910), (11412903256176698835), (by first | rfl | (simp; done) | (simp [*]; done)), H', ⟨Nat.le_refl _⟩, ⟨by (with_reducible repeat (first | refine blk_drewN ?_ _ | refine blk_drew ?_ | refine blk_alloc ?_ _)); refine blk_far ?_ NB411_418.out _; (with_reducible repeat (first | refine blk_drewN ?_ _ | refine blk_drew ?_ | refine blk_alloc ?_ _)); refine blk_far ?_ NB411_418.out _; (with_reducible repeat (first | refine blk_drewN ?_ _ | refine blk_drew ?_ | refine blk_alloc ?_ _)); refine blk_far ?_ NB411_418.out _; (with_reducible repeat (first | refine blk_drewN ?_ _ | refine blk_drew ?_ | refine blk_alloc ?_ _)); refine blk_far ?_ NB411_418.out _; (with_reducible repeat (first | refine blk_drewN ?_ _ | refine blk_drew ?_ | refine blk_alloc ?_ _)); exact BK411.out⟩, ⟨by (with_reducible repeat (first | refine blk_drewN ?_ _ | refine blk_drew ?_ | refine blk_alloc ?_ _)); refine blk_put (cs := #[.int .u64 13971524466476933880, .int .u64 3286059910148148165, .int .u64 8210247237615983910, .int .u64 0]) ?_ 3 _ rfl; (with_reducible repeat (first | refine blk_drewN ?_ _ | refine blk_drew ?_ | refine blk_alloc ?_ _)); refine blk_put (cs := #[.int .u64 13971524466476933880, .int .u64 3286059910148148165, .int .u64 0, .int .u64 0]) ?_ 2 _ rfl; (with_reducible repeat (first | refine blk_drewN ?_ _ | refine blk_drew ?_ | refine blk_alloc ?_ _)); refine blk_put (cs := #[.int .u64 13971524466476933880, .int .u64 0, .int .u64 0, .int .u64 0]) ?_ 1 _ rfl; (with_reducible repeat (first | refine blk_drewN ?_ _ | refine blk_drew ?_ | refine blk_alloc ?_ _)); refine blk_put (cs := #[.int .u64 0, .int .u64 0, .int .u64 0, .int .u64 0]) ?_ 0 _ rfl; (with_reducible repeat (first | refine blk_drewN ?_ _ | refine blk_drew ?_ | refine blk_alloc ?_ _)); exact BK418.out⟩, ⟨by repeat (first | (with_reducible first | exact HB.out | apply below_alloc | apply pw_below_drewN | apply below_drew1 | refine below_set ?_ GE411.out | refine below_set ?_ GE418.out) | exact HB.out)⟩⟩
          case round =>
            clear H'
            try clear c1
            try clear hcv1
            try clear c2
            try clear c2b0
            try clear c2b1
            try clear p2
            try clear c5
            try clear c6
            try clear c6b0
            try clear c6b1
            try clear c6b2
            try clear p6
            try clear c8
            try clear c8b0
            try clear c8b1
            try clear c8b2
            try clear c9
            try clear c10
            try clear c10b0
            try clear c10b1
            try clear c10b2
            try clear hcv17
            try clear hcv18
            try clear hcv19
            try clear c21
            try clear hcz22_0
            try clear hcz22_1
            try clear hcz22_2
            try clear hcz22_3
            try clear hcz4_0
            try clear hcz4_1
            try clear hcz4_2
            try clear hcz4_3
            try clear hfz22_0
            try clear hfz22_1
            try clear hfz22_2
            try clear hfz22_3
            try clear hfz4_0
            try clear hfz4_1
            try clear hfz4_2
            try clear hfz4_3
            obtain ⟨x6_1, x419000_1, x419001_1, x419002_1, x419003_1, rfl, HA, HK1, BK411, BK418, HB⟩ := hrel
            cases gk with
            | zero => exact absurd HA.out (by simp [spec_HashOf.l0])
            | succ k1 =>
              have H := HA.out
              clear HA
              simp only [spec_HashOf.l0] at H
              by_cases c23 : x6_1 < ((((t412 ++ (strOfNums y413)) ++ t416) ++ t417).size : Int)
              · rw [if_pos c23] at H
                have c23b0 : decide (x6_1 < ((((t412 ++ (strOfNums y413)) ++ t416) ++ t417).size : Int)) = true := decide_eq_true c23
                try (have c23b0n := c23b0; simp only [ByteArray.size_append, Int.natCast_add] at c23b0n)
                clear c23
                replace H := Option.bind_eq_some_iff.mp H
                obtain ⟨t419, A240, H⟩ := H
                replace H : ((spec_l1Word.f k1 (((t412 ++ (strOfNums y413)) ++ t416) ++ t417) (wrap64 (x6_1 + 8))).bind fun t420 => ((spec_l1Word.f k1 (((t412 ++ (strOfNums y413)) ++ t416) ++ t417) (wrap64 (x6_1 + 16))).bind fun t421 => ((spec_l1Word.f k1 (((t412 ++ (strOfNums y413)) ++ t416) ++ t417) (wrap64 (x6_1 + 24))).bind fun t422 => ((spec_HashBlock.f k1 x419000_1 x419001_1 x419002_1 x419003_1 t419 t420 t421 t422).bind fun bt423 => (spec_HashOf.l0 k1 (((t412 ++ (strOfNums y413)) ++ t416) ++ t417) (wrap64 (x6_1 + 32)) bt423.1 bt423.2.1 bt423.2.2.1 bt423.2.2.2))))) = some (r1, r2, r3, r4) := H
                have A24 := Aside0.mk A240
                clear A240
                replace H := Option.bind_eq_some_iff.mp H
                obtain ⟨t420, A250, H⟩ := H
                replace H : ((spec_l1Word.f k1 (((t412 ++ (strOfNums y413)) ++ t416) ++ t417) (wrap64 (x6_1 + 16))).bind fun t421 => ((spec_l1Word.f k1 (((t412 ++ (strOfNums y413)) ++ t416) ++ t417) (wrap64 (x6_1 + 24))).bind fun t422 => ((spec_HashBlock.f k1 x419000_1 x419001_1 x419002_1 x419003_1 t419 t420 t421 t422).bind fun bt423 => (spec_HashOf.l0 k1 (((t412 ++ (strOfNums y413)) ++ t416) ++ t417) (wrap64 (x6_1 + 32)) bt423.1 bt423.2.1 bt423.2.2.1 bt423.2.2.2)))) = some (r1, r2, r3, r4) := H
                have A25 := Aside0.mk A250
                clear A250
                replace H := Option.bind_eq_some_iff.mp H
                obtain ⟨t421, A260, H⟩ := H
                replace H : ((spec_l1Word.f k1 (((t412 ++ (strOfNums y413)) ++ t416) ++ t417) (wrap64 (x6_1 + 24))).bind fun t422 => ((spec_HashBlock.f k1 x419000_1 x419001_1 x419002_1 x419003_1 t419 t420 t421 t422).bind fun bt423 => (spec_HashOf.l0 k1 (((t412 ++ (strOfNums y413)) ++ t416) ++ t417) (wrap64 (x6_1 + 32)) bt423.1 bt423.2.1 bt423.2.2.1 bt423.2.2.2))) = some (r1, r2, r3, r4) := H
                have A26 := Aside0.mk A260
                clear A260
                replace H := Option.bind_eq_some_iff.mp H
                obtain ⟨t422, A270, H⟩ := H
                replace H : ((spec_HashBlock.f k1 x419000_1 x419001_1 x419002_1 x419003_1 t419 t420 t421 t422).bind fun bt423 => (spec_HashOf.l0 k1 (((t412 ++ (strOfNums y413)) ++ t416) ++ t417) (wrap64 (x6_1 + 32)) bt423.1 bt423.2.1 bt423.2.2.1 bt423.2.2.2)) = some (r1, r2, r3, r4) := H
                have A27 := Aside0.mk A270
                clear A270
                replace H := Option.bind_eq_some_iff.mp H
                obtain ⟨⟨t423, t424, t425, t426⟩, A280, H⟩ := H
                replace H : (spec_HashOf.l0 k1 (((t412 ++ (strOfNums y413)) ++ t416) ++ t417) (wrap64 (x6_1 + 32)) t423 t424 t425 t426) = some (r1, r2, r3, r4) := H
                have A28 := Aside0.mk A280
                clear A280
                have H' := Aside0.mk H
                clear H
                try go_wp2
                have n0_ := Aside0.mk (blk_drew BK411.out)
                have n1_ := Aside0.mk (blk_drew BK418.out)
                have n2_ := Aside0.mk (below_drew1 HB.out)
                clear BK411
                clear BK418
                clear HB
                have BK411 := n0_
                have BK418 := n1_
                have HB := n2_
                clear n0_ n1_ n2_
                refine start_ (n := 19) (S := fun w' => w'.cell? ⟨gb418, 0, none⟩ = some (.int .u64 x419000_1) ∧ w'.cell? ⟨gb418, 1, none⟩ = some (.int .u64 x419001_1) ∧ w'.cell? ⟨gb418, 2, none⟩ = some (.int .u64 x419002_1) ∧ w'.cell? ⟨gb418, 3, none⟩ = some (.int .u64 x419003_1)) (ds := [18]) #[false, false, false, false, false, false, false, false, false, false, false, false, false, false, false, false, false, false, false] (by kernel_rfl) rfl rfl ⟨(blk_cell BK418.out 0).trans rfl, (blk_cell BK418.out 1).trans rfl, (blk_cell BK418.out 2).trans rfl, (blk_cell BK418.out 3).trans rfl⟩ (fun hHeld => ?_); refine with_tabW spec_HashOf.tab10 spec_HashOf.bits10 (fun HT_ HW_ => ?_)
                generalize wr.drew = w29 at BK411 BK418 HB hHeld ⊢
                refine pure_ (i := 1) (N := some 39) (v := ?_) (a' := ?_) #[false, true, false, false, false, false, false, false, false, false, false, false, false, false, false, false, false, false, false] rfl rfl (any_of HT_.out (by kernel_rfl)) (fun _ _ _ h => h) (Or.inl ⟨by rfl, ?_⟩) ?_ ?_
                rotate_left
                · intro w'
                  go_simp
                  first | with_reducible rfl | (rw [if_neg (by intro h_; (try simp only [ByteArray.size_append, ByteArray.size_extract, eq_iff_iff, iff_true] at *); omega)]; first | done | rfl)
                rotate_left
                · simp only [Act.put, List.setIfInBounds_toArray, List.set_cons_zero, List.set_cons_succ, i64_w, i32_w]
                  rfl
                refine pure_ (i := 2) (N := some 40) (v := ?_) (a' := ?_) #[false, true, true, false, false, false, false, false, false, false, false, false, false, false, false, false, false, false, false] rfl rfl (any_of HT_.out (by kernel_rfl)) (fun _ _ _ h => h) (Or.inl ⟨by rfl, ?_⟩) ?_ ?_
                rotate_left
                · intro w'
                  go_simp
                  first | with_reducible rfl | (rw [if_neg (by intro h_; (try simp only [ByteArray.size_append, ByteArray.size_extract, eq_iff_iff, iff_true] at *); omega)]; first | done | rfl)
                rotate_left
                · simp only [Act.put, List.setIfInBounds_toArray, List.set_cons_zero, List.set_cons_succ, i64_w, i32_w]
                  rfl
                refine pure_ (i := 4) (N := some 42) (v := ?_) (a' := ?_) #[false, true, true, false, true, false, false, false, false, false, false, false, false, false, false, false, false, false, false] rfl rfl (any_of HT_.out (by kernel_rfl)) (fun _ _ _ h => h) (Or.inl ⟨by rfl, ?_⟩) ?_ ?_
                rotate_left
                · intro w'
                  go_simp
                  first | with_reducible rfl | (rw [if_neg (by intro h_; (try simp only [ByteArray.size_append, ByteArray.size_extract, eq_iff_iff, iff_true] at *); omega)]; first | done | rfl)
                rotate_left
                · simp only [Act.put, List.setIfInBounds_toArray, List.set_cons_zero, List.set_cons_succ, i64_w, i32_w]
                  rfl
                refine pure_ (i := 5) (N := some 43) (v := ?_) (a' := ?_) #[false, true, true, false, true, true, false, false, false, false, false, false, false, false, false, false, false, false, false] rfl rfl (any_of HT_.out (by kernel_rfl)) (fun _ _ _ h => h) (Or.inl ⟨by rfl, ?_⟩) ?_ ?_
                rotate_left
                · intro w'
                  go_simp
                  first | with_reducible rfl | (rw [if_neg (by intro h_; (try simp only [ByteArray.size_append, ByteArray.size_extract, eq_iff_iff, iff_true] at *); omega)]; first | done | rfl)
                rotate_left
                · simp only [Act.put, List.setIfInBounds_toArray, List.set_cons_zero, List.set_cons_succ, i64_w, i32_w]
                  rfl
                refine pure_ (i := 6) (N := some 44) (v := ?_) (a' := ?_) #[false, true, true, false, true, true, true, false, false, false, false, false, false, false, false, false, false, false, false] rfl rfl (any_of HT_.out (by kernel_rfl)) (fun _ _ _ h => h) (Or.inl ⟨by rfl, ?_⟩) ?_ ?_
                rotate_left
                · intro w'
                  go_simp
                  first | with_reducible rfl | (rw [if_neg (by intro h_; (try simp only [ByteArray.size_append, ByteArray.size_extract, eq_iff_iff, iff_true] at *); omega)]; first | done | rfl)
                rotate_left
                · simp only [Act.put, List.setIfInBounds_toArray, List.set_cons_zero, List.set_cons_succ, i64_w, i32_w]
                  rfl
                refine pure_ (i := 8) (N := some 46) (v := ?_) (a' := ?_) #[false, true, true, false, true, true, true, false, true, false, false, false, false, false, false, false, false, false, false] rfl rfl (any_of HT_.out (by kernel_rfl)) (fun _ _ _ h => h) (Or.inl ⟨by rfl, ?_⟩) ?_ ?_
                rotate_left
                · intro w'
                  go_simp
                  first | with_reducible rfl | (rw [if_neg (by intro h_; (try simp only [ByteArray.size_append, ByteArray.size_extract, eq_iff_iff, iff_true] at *); omega)]; first | done | rfl)
                rotate_left
                · simp only [Act.put, List.setIfInBounds_toArray, List.set_cons_zero, List.set_cons_succ, i64_w, i32_w]
                  rfl
                refine pure_ (i := 9) (N := some 47) (v := ?_) (a' := ?_) #[false, true, true, false, true, true, true, false, true, true, false, false, false, false, false, false, false, false, false] rfl rfl (any_of HT_.out (by kernel_rfl)) (fun _ _ _ h => h) (Or.inl ⟨by rfl, ?_⟩) ?_ ?_
                rotate_left
                · intro w'
                  go_simp
                  first | with_reducible rfl | (rw [if_neg (by intro h_; (try simp only [ByteArray.size_append, ByteArray.size_extract, eq_iff_iff, iff_true] at *); omega)]; first | done | rfl)
                rotate_left
                · simp only [Act.put, List.setIfInBounds_toArray, List.set_cons_zero, List.set_cons_succ, i64_w, i32_w]
                  rfl
                refine pure_ (i := 10) (N := some 48) (v := ?_) (a' := ?_) #[false, true, true, false, true, true, true, false, true, true, true, false, false, false, false, false, false, false, false] rfl rfl (any_of HT_.out (by kernel_rfl)) (fun _ _ _ h => h) (Or.inl ⟨by rfl, ?_⟩) ?_ ?_
                rotate_left
                · intro w'
                  go_simp
                  first | with_reducible rfl | (rw [if_neg (by intro h_; (try simp only [ByteArray.size_append, ByteArray.size_extract, eq_iff_iff, iff_true] at *); omega)]; first | done | rfl)
                rotate_left
                · simp only [Act.put, List.setIfInBounds_toArray, List.set_cons_zero, List.set_cons_succ, i64_w, i32_w]
                  rfl
                refine pure_ (i := 12) (N := some 50) (v := ?_) (a' := ?_) #[false, true, true, false, true, true, true, false, true, true, true, false, true, false, false, false, false, false, false] rfl rfl (any_of HT_.out (by kernel_rfl)) (fun _ _ _ h => h) (Or.inl ⟨by rfl, ?_⟩) ?_ ?_
                rotate_left
                · intro w'
                  go_simp
                  first | with_reducible rfl | (rw [if_neg (by intro h_; (try simp only [ByteArray.size_append, ByteArray.size_extract, eq_iff_iff, iff_true] at *); omega)]; first | done | rfl)
                rotate_left
                · simp only [Act.put, List.setIfInBounds_toArray, List.set_cons_zero, List.set_cons_succ, i64_w, i32_w]
                  rfl
                refine pure_ (i := 13) (N := some 51) (v := ?_) (a' := ?_) #[false, true, true, false, true, true, true, false, true, true, true, false, true, true, false, false, false, false, false] rfl rfl (any_of HT_.out (by kernel_rfl)) (fun _ _ _ h => h) (Or.inl ⟨by rfl, ?_⟩) ?_ ?_
                rotate_left
                · intro w'
                  go_simp
                  first | with_reducible rfl | (rw [if_neg (by intro h_; (try simp only [ByteArray.size_append, ByteArray.size_extract, eq_iff_iff, iff_true] at *); omega)]; first | done | rfl)
                rotate_left
                · simp only [Act.put, List.setIfInBounds_toArray, List.set_cons_zero, List.set_cons_succ, i64_w, i32_w]
                  rfl
                refine pure_ (i := 14) (N := some 52) (v := ?_) (a' := ?_) #[false, true, true, false, true, true, true, false, true, true, true, false, true, true, true, false, false, false, false] rfl rfl (any_of HT_.out (by kernel_rfl)) (fun _ _ _ h => h) (Or.inl ⟨by rfl, ?_⟩) ?_ ?_
                rotate_left
                · intro w'
                  go_simp
                  first | with_reducible rfl | (rw [if_neg (by intro h_; (try simp only [ByteArray.size_append, ByteArray.size_extract, eq_iff_iff, iff_true] at *); omega)]; first | done | rfl)
                rotate_left
                · simp only [Act.put, List.setIfInBounds_toArray, List.set_cons_zero, List.set_cons_succ, i64_w, i32_w]
                  rfl
                refine take_ (i := 0) (N := some 38) (v := ?_) (a' := ?_) #[true, true, true, false, true, true, true, false, true, true, true, false, true, true, true, false, false, false, false] rfl rfl (take_ofW HT_.out HW_.out (by kernel_rfl)) (fun _ _ _ h => h) (Or.inl ⟨by rfl, ?_⟩) hHeld ?_ ?_
                rotate_left
                · rintro w' ⟨s0, s1, s2, s3⟩
                  go_simp
                  first | with_reducible rfl | (rw [if_neg (by intro h_; (try simp only [ByteArray.size_append, ByteArray.size_extract, eq_iff_iff, iff_true] at *); omega)]; first | done | rfl)
                rotate_left
                · simp only [Act.put, List.setIfInBounds_toArray, List.set_cons_zero, List.set_cons_succ, i64_w, i32_w]
                  rfl
                refine one_ (i := 3) (N := some 41) #[true, true, true, true, true, true, true, false, true, true, true, false, true, true, true, false, false, false, false] rfl rfl (one_of HT_.out (by kernel_rfl)) (by decide) (fun K hK => ?_)
                refine goes_ Try.func84 (by kernel_rfl) rfl #[.string (((t412 ++ (strOfNums y413)) ++ t416) ++ t417), .int .i64 x6_1] (by rfl) rfl rfl (by (try simp only [List.map_toArray, List.map_cons, List.map_nil]); first | done | rfl | (simp only [List.length_drop, List.length_take]; rfl)) ?_
                with_reducible refine (spec_l1Word.calls k1 (((t412 ++ (strOfNums y413)) ++ t416) ++ t417) x6_1 t419 _ A24.out).mono ?_
                rintro e w' ⟨rfl, ⟨nd, rfl⟩⟩
                refine ⟨_, rfl, ?_⟩
                refine hK.out _ _ ⟨(blk_cell BK418.out 0).trans rfl, (blk_cell BK418.out 1).trans rfl, (blk_cell BK418.out 2).trans rfl, (blk_cell BK418.out 3).trans rfl⟩ (fun hHeld => ?_)
                clear hK K
                refine norm_ (a' := ?_) ?_ ?_
                rotate_left
                · show Act.put _ (some 41) _ = _
                  simp only [Act.put, List.setIfInBounds_toArray, List.set_cons_zero, List.set_cons_succ, i64_w, i32_w]
                  rfl
                refine one_ (i := 7) (N := some 45) #[true, true, true, true, true, true, true, true, true, true, true, false, true, true, true, false, false, false, false] rfl rfl (one_of HT_.out (by kernel_rfl)) (by decide) (fun K hK => ?_)
                refine goes_ Try.func84 (by kernel_rfl) rfl #[.string (((t412 ++ (strOfNums y413)) ++ t416) ++ t417), .int .i64 (wrap64 (x6_1 + 8))] (by rfl) rfl rfl (by (try simp only [List.map_toArray, List.map_cons, List.map_nil]); first | done | rfl | (simp only [List.length_drop, List.length_take]; rfl)) ?_
                with_reducible refine (spec_l1Word.calls k1 (((t412 ++ (strOfNums y413)) ++ t416) ++ t417) (wrap64 (x6_1 + 8)) t420 _ A25.out).mono ?_
                rintro e w' ⟨rfl, ⟨nd, rfl⟩⟩
                refine ⟨_, rfl, ?_⟩
                refine hK.out _ _ ⟨(blk_cell BK418.out 0).trans rfl, (blk_cell BK418.out 1).trans rfl, (blk_cell BK418.out 2).trans rfl, (blk_cell BK418.out 3).trans rfl⟩ (fun hHeld => ?_)
                clear hK K
                refine norm_ (a' := ?_) ?_ ?_
                rotate_left
                · show Act.put _ (some 45) _ = _
                  simp only [Act.put, List.setIfInBounds_toArray, List.set_cons_zero, List.set_cons_succ, i64_w, i32_w]
                  rfl
                refine one_ (i := 11) (N := some 49) #[true, true, true, true, true, true, true, true, true, true, true, true, true, true, true, false, false, false, false] rfl rfl (one_of HT_.out (by kernel_rfl)) (by decide) (fun K hK => ?_)
                refine goes_ Try.func84 (by kernel_rfl) rfl #[.string (((t412 ++ (strOfNums y413)) ++ t416) ++ t417), .int .i64 (wrap64 (x6_1 + 16))] (by rfl) rfl rfl (by (try simp only [List.map_toArray, List.map_cons, List.map_nil]); first | done | rfl | (simp only [List.length_drop, List.length_take]; rfl)) ?_
                with_reducible refine (spec_l1Word.calls k1 (((t412 ++ (strOfNums y413)) ++ t416) ++ t417) (wrap64 (x6_1 + 16)) t421 _ A26.out).mono ?_
                rintro e w' ⟨rfl, ⟨nd, rfl⟩⟩
                refine ⟨_, rfl, ?_⟩
                refine hK.out _ _ ⟨(blk_cell BK418.out 0).trans rfl, (blk_cell BK418.out 1).trans rfl, (blk_cell BK418.out 2).trans rfl, (blk_cell BK418.out 3).trans rfl⟩ (fun hHeld => ?_)
                clear hK K
                refine norm_ (a' := ?_) ?_ ?_
                rotate_left
                · show Act.put _ (some 49) _ = _
                  simp only [Act.put, List.setIfInBounds_toArray, List.set_cons_zero, List.set_cons_succ, i64_w, i32_w]
                  rfl
                refine one_ (i := 15) (N := some 53) #[true, true, true, true, true, true, true, true, true, true, true, true, true, true, true, true, false, false, false] rfl rfl (one_of HT_.out (by kernel_rfl)) (by decide) (fun K hK => ?_)
                refine goes_ Try.func84 (by kernel_rfl) rfl #[.string (((t412 ++ (strOfNums y413)) ++ t416) ++ t417), .int .i64 (wrap64 (x6_1 + 24))] (by rfl) rfl rfl (by (try simp only [List.map_toArray, List.map_cons, List.map_nil]); first | done | rfl | (simp only [List.length_drop, List.length_take]; rfl)) ?_
                with_reducible refine (spec_l1Word.calls k1 (((t412 ++ (strOfNums y413)) ++ t416) ++ t417) (wrap64 (x6_1 + 24)) t422 _ A27.out).mono ?_
                rintro e w' ⟨rfl, ⟨nd, rfl⟩⟩
                refine ⟨_, rfl, ?_⟩
                refine hK.out _ _ ⟨(blk_cell BK418.out 0).trans rfl, (blk_cell BK418.out 1).trans rfl, (blk_cell BK418.out 2).trans rfl, (blk_cell BK418.out 3).trans rfl⟩ (fun hHeld => ?_)
                clear hK K
                refine norm_ (a' := ?_) ?_ ?_
                rotate_left
                · show Act.put _ (some 53) _ = _
                  simp only [Act.put, List.setIfInBounds_toArray, List.set_cons_zero, List.set_cons_succ, i64_w, i32_w]
                  rfl
                refine pure_ (i := 16) (N := some 54) (v := ?_) (a' := ?_) #[true, true, true, true, true, true, true, true, true, true, true, true, true, true, true, true, true, false, false] rfl rfl (any_of HT_.out (by kernel_rfl)) (fun _ _ _ h => h) (Or.inl ⟨by rfl, ?_⟩) ?_ ?_
                rotate_left
                · intro w'
                  go_simp
                  first | with_reducible rfl | (rw [if_neg (by intro h_; (try simp only [ByteArray.size_append, ByteArray.size_extract, eq_iff_iff, iff_true] at *); omega)]; first | done | rfl)
                rotate_left
                · simp only [Act.put, List.setIfInBounds_toArray, List.set_cons_zero, List.set_cons_succ, i64_w, i32_w]
                  rfl
                refine one_ (i := 17) (N := some 55) #[true, true, true, true, true, true, true, true, true, true, true, true, true, true, true, true, true, true, false] rfl rfl (one_of HT_.out (by kernel_rfl)) (by decide) (fun K hK => ?_)
                refine goes_ Try.func44 (by kernel_rfl) rfl #[.agg #[.int .u64 x419000_1, .int .u64 x419001_1, .int .u64 x419002_1, .int .u64 x419003_1], .agg #[.int .u64 t419, .int .u64 t420, .int .u64 t421, .int .u64 t422]] (by rfl) rfl rfl (by (try simp only [List.map_toArray, List.map_cons, List.map_nil]); first | done | rfl | (simp only [List.length_drop, List.length_take]; rfl)) ?_
                with_reducible refine (spec_HashBlock.calls k1 x419000_1 x419001_1 x419002_1 x419003_1 t419 t420 t421 t422 t423 t424 t425 t426 _ A28.out).mono ?_
                rintro e w30 ⟨rfl, hb⟩
                refine ⟨_, rfl, ?_⟩
                have n0_ := Aside0.mk (blk_below (g := gb411) (o := .cells #[.int .u64 0, .int .u64 0, .int .u64 0, .int .u64 0] 30 (0, 0)) (by (with_reducible repeat (first | refine blk_drewN ?_ _ | refine blk_drew ?_ | refine blk_alloc ?_ _)); exact BK411.out) hb)
                have n1_ := Aside0.mk (blk_below (g := gb418) (o := .cells #[.int .u64 x419000_1, .int .u64 x419001_1, .int .u64 x419002_1, .int .u64 x419003_1] 30 (0, 0)) (by (with_reducible repeat (first | refine blk_drewN ?_ _ | refine blk_drew ?_ | refine blk_alloc ?_ _)); exact BK418.out) hb)
                have n2_ := Aside0.mk (below_step (by repeat (first | (with_reducible first | exact HB.out | apply below_alloc | apply pw_below_drewN | apply below_drew1 | refine below_set ?_ GE411.out | refine below_set ?_ GE418.out) | exact HB.out)) hb)
                clear BK411
                clear BK418
                clear HB
                have BK411 := n0_
                have BK418 := n1_
                have HB := n2_
                clear n0_ n1_ n2_
                (try clear hb)
                (try clear hb2)
                (try clear hk)
                (try clear hi)
                refine hK.out _ _ ⟨(blk_cell BK418.out 0).trans rfl, (blk_cell BK418.out 1).trans rfl, (blk_cell BK418.out 2).trans rfl, (blk_cell BK418.out 3).trans rfl⟩ (fun hHeld => ?_)
                clear hK K
                refine norm_ (a' := ?_) ?_ ?_
                rotate_left
                · show Act.put _ (some 55) _ = _
                  simp only [Act.put, List.setIfInBounds_toArray, List.set_cons_zero, List.set_cons_succ, i64_w, i32_w]
                  rfl
                refine last_ (i := 18) (N := none) #[true, true, true, true, true, true, true, true, true, true, true, true, true, true, true, true, true, true, true] rfl rfl (one_of HT_.out (by kernel_rfl)) (by decide) (fun K hK => ?_)
                have hs31 : w30.cell? ⟨gb418, 0, none⟩ = some (.int .u64 x419000_1) := (blk_cell BK418.out 0).trans rfl
                have hfs31 := blk_frozen BK418.out 0
                have hns31_0 := NB411_418.out
                have hms31_0 := NB418_411.out
                have hs32 : w30.cell? ⟨gb418, 1, none⟩ = some (.int .u64 x419001_1) := (blk_cell BK418.out 1).trans rfl
                have hfs32 := blk_frozen BK418.out 1
                have hns32_0 := NB411_418.out
                have hms32_0 := NB418_411.out
                have hs33 : w30.cell? ⟨gb418, 2, none⟩ = some (.int .u64 x419002_1) := (blk_cell BK418.out 2).trans rfl
                have hfs33 := blk_frozen BK418.out 2
                have hns33_0 := NB411_418.out
                have hms33_0 := NB418_411.out
                have hs34 : w30.cell? ⟨gb418, 3, none⟩ = some (.int .u64 x419003_1) := (blk_cell BK418.out 3).trans rfl
                have hfs34 := blk_frozen BK418.out 3
                have hns34_0 := NB411_418.out
                have hms34_0 := NB418_411.out
                refine skip_ (w1 := ?_) (by rfl) rfl ?_ ?_
                rotate_left
                · go_simp
                  rfl
                refine hK.out _ _ ?_
                clear hK K
                refine done_ (done_of HT_.out (by kernel_rfl)) ?_
                try go_wp2
                go_roundg k1
                case measure => have := HK1.out; omega
                case rel => exact ⟨(wrap64 (x6_1 + 32)), (t423), (t424), (t425), (t426), (by first | rfl | (simp; done) | (simp [*]; done)), H', ⟨by have := HK1.out; omega⟩, ⟨by (with_reducible repeat (first | refine blk_drewN ?_ _ | refine blk_drew ?_ | refine blk_alloc ?_ _)); refine blk_far ?_ NB411_418.out _; (with_reducible repeat (first | refine blk_drewN ?_ _ | refine blk_drew ?_ | refine blk_alloc ?_ _)); refine blk_far ?_ NB411_418.out _; (with_reducible repeat (first | refine blk_drewN ?_ _ | refine blk_drew ?_ | refine blk_alloc ?_ _)); refine blk_far ?_ NB411_418.out _; (with_reducible repeat (first | refine blk_drewN ?_ _ | refine blk_drew ?_ | refine blk_alloc ?_ _)); refine blk_far ?_ NB411_418.out _; (with_reducible repeat (first | refine blk_drewN ?_ _ | refine blk_drew ?_ | refine blk_alloc ?_ _)); exact BK411.out⟩, ⟨by (with_reducible repeat (first | refine blk_drewN ?_ _ | refine blk_drew ?_ | refine blk_alloc ?_ _)); refine blk_put (cs := #[.int .u64 t423, .int .u64 t424, .int .u64 t425, .int .u64 x419003_1]) ?_ 3 _ rfl; (with_reducible repeat (first | refine blk_drewN ?_ _ | refine blk_drew ?_ | refine blk_alloc ?_ _)); refine blk_put (cs := #[.int .u64 t423, .int .u64 t424, .int .u64 x419002_1, .int .u64 x419003_1]) ?_ 2 _ rfl; (with_reducible repeat (first | refine blk_drewN ?_ _ | refine blk_drew ?_ | refine blk_alloc ?_ _)); refine blk_put (cs := #[.int .u64 t423, .int .u64 x419001_1, .int .u64 x419002_1, .int .u64 x419003_1]) ?_ 1 _ rfl; (with_reducible repeat (first | refine blk_drewN ?_ _ | refine blk_drew ?_ | refine blk_alloc ?_ _)); refine blk_put (cs := #[.int .u64 x419000_1, .int .u64 x419001_1, .int .u64 x419002_1, .int .u64 x419003_1]) ?_ 0 _ rfl; (with_reducible repeat (first | refine blk_drewN ?_ _ | refine blk_drew ?_ | refine blk_alloc ?_ _)); exact BK418.out⟩, ⟨by repeat (first | (with_reducible first | exact HB.out | apply below_alloc | apply pw_below_drewN | apply below_drew1 | refine below_set ?_ GE411.out | refine below_set ?_ GE418.out) | exact HB.out)⟩⟩
              · rw [if_neg c23] at H
                have c23b0 : decide (x6_1 < ((((t412 ++ (strOfNums y413)) ++ t416) ++ t417).size : Int)) = false := decide_eq_false c23
                try (have c23b0n := c23b0; simp only [ByteArray.size_append, Int.natCast_add] at c23b0n)
                clear c23
                simp only [Option.some.injEq, Prod.mk.injEq] at H
                obtain ⟨rfl, rfl, rfl, rfl⟩ := H
                have hnb35 := NB418_411.out
                have hnc35 := NB411_418.out
                have hcz36_0 : wr.cell? ⟨gb418, 0, none⟩ = some (.int .u64 x419000_1) := (blk_cell BK418.out 0).trans rfl
                have hcz36_1 : wr.cell? ⟨gb418, 1, none⟩ = some (.int .u64 x419001_1) := (blk_cell BK418.out 1).trans rfl
                have hcz36_2 : wr.cell? ⟨gb418, 2, none⟩ = some (.int .u64 x419002_1) := (blk_cell BK418.out 2).trans rfl
                have hcz36_3 : wr.cell? ⟨gb418, 3, none⟩ = some (.int .u64 x419003_1) := (blk_cell BK418.out 3).trans rfl
                have hfz36_0 := blk_frozen BK418.out 0
                have hfz36_1 := blk_frozen BK418.out 1
                have hfz36_2 := blk_frozen BK418.out 2
                have hfz36_3 := blk_frozen BK418.out 3
                have hcz37_0 : wr.cell? ⟨gb411, 0, none⟩ = some (.int .u64 0) := (blk_cell BK411.out 0).trans rfl
                have hcz37_1 : wr.cell? ⟨gb411, 1, none⟩ = some (.int .u64 0) := (blk_cell BK411.out 1).trans rfl
                have hcz37_2 : wr.cell? ⟨gb411, 2, none⟩ = some (.int .u64 0) := (blk_cell BK411.out 2).trans rfl
                have hcz37_3 : wr.cell? ⟨gb411, 3, none⟩ = some (.int .u64 0) := (blk_cell BK411.out 3).trans rfl
                have hfz37_0 := blk_frozen BK411.out 0
                have hfz37_1 := blk_frozen BK411.out 1
                have hfz37_2 := blk_frozen BK411.out 2
                have hfz37_3 := blk_frozen BK411.out 3
                go_wp2
                refine bodyPost_ret (results_cell_row rfl _ _ gb411 30 #[.int .u64 x419000_1, .int .u64 x419001_1, .int .u64 x419002_1, .int .u64 x419003_1] (0, 0) _ rfl (by (with_reducible repeat (first | refine blk_drewN ?_ _ | refine blk_drew ?_ | refine blk_alloc ?_ _)); refine blk_put (cs := #[.int .u64 x419000_1, .int .u64 x419001_1, .int .u64 x419002_1, .int .u64 0]) ?_ 3 _ rfl; (with_reducible repeat (first | refine blk_drewN ?_ _ | refine blk_drew ?_ | refine blk_alloc ?_ _)); refine blk_put (cs := #[.int .u64 x419000_1, .int .u64 x419001_1, .int .u64 0, .int .u64 0]) ?_ 2 _ rfl; (with_reducible repeat (first | refine blk_drewN ?_ _ | refine blk_drew ?_ | refine blk_alloc ?_ _)); refine blk_put (cs := #[.int .u64 x419000_1, .int .u64 0, .int .u64 0, .int .u64 0]) ?_ 1 _ rfl; (with_reducible repeat (first | refine blk_drewN ?_ _ | refine blk_drew ?_ | refine blk_alloc ?_ _)); refine blk_put (cs := #[.int .u64 0, .int .u64 0, .int .u64 0, .int .u64 0]) ?_ 0 _ rfl; (with_reducible repeat (first | refine blk_drewN ?_ _ | refine blk_drew ?_ | refine blk_alloc ?_ _)); exact BK411.out) Try.underlying30 rfl (by kernel_rfl)) rfl ?_
                exact ⟨by first | rfl | (simp [errW_none, errW_some] <;> rfl) | (simp [*, errW_none, errW_some] <;> rfl), by repeat (first | (with_reducible first | exact HB.out | apply below_alloc | apply pw_below_drewN | apply below_drew1 | refine below_set ?_ GE411.out | refine below_set ?_ GE418.out) | exact HB.out)⟩
        · rw [if_neg c10] at H
          exact absurd H (by simp)
      · rw [if_neg c8] at H
        exact absurd H (by simp)
    · rw [if_neg c6] at H
      exact absurd H (by simp)

end Go.Proofs.Ytfbhlofifodkjaa.B
