/- What the Go functions loop.example/belfry/spec.l3Node do is what the Lean functions .f of their names here say; condition: .f gives an answer. (Written by the session's program pp.py over the kit's print; Lean checks it.) -/
import Derived.Test.YtflckegggopdnaaZCEK
import Derived.Test.YtflckegggopdnaaZCEM
import Derived.Test.YtflckegggopdnaaZCEFSpecL3PeaksAhead
import Derived.Test.YtflckegggopdnaaZCEGCount1
import Derived.Test.YtflckegggopdnaaZCEGFall1
import Derived.Test.YtflckegggopdnaaZCEGSpecPair1
import Derived.Test.YtflckegggopdnaaZCEGSplit1
namespace Go.Proofs.Ytflckegggopdnaa.B
open Go.RowKit Go.Proofs.YtflckegggopdnaaW.PrintWords Go.Proofs.YtflckegggopdnaaW.PrintLast Go.Proofs.YtflckegggopdnaaW.PrintMore
attribute [local go_sem] max2_int min2_int max_two min_two max_three min_three max_four min_four
set_option linter.unusedVariables false
set_option linter.unusedSimpArgs false
section
def spec_l3Node.f : Nat → Int → Int → Int → Int → List (S29) → Option (Int × Int × Int × Int)
  | 0, _, _, _, _, _ => none
  | k + 1, a0, a1, a2, a3, l4 => if a0 ≥ a2 then ((spec_PeaksCount.f k a2).bind fun t187 => ((spec_l3Rests.f k 0 a3 a2 a0).bind fun t188 => (if 0 ≤ (wrap64 (t187 + t188)) then (if (wrap64 (t187 + t188)) < (l4.length : Int) then (some ((rd_T29 l4 (wrap64 (t187 + t188))).f0, (rd_T29 l4 (wrap64 (t187 + t188))).f1, (rd_T29 l4 (wrap64 (t187 + t188))).f2, (rd_T29 l4 (wrap64 (t187 + t188))).f3)) else (none)) else (none)))) else (if a1 ≤ a2 then ((spec_l3PeaksAhead.f k a2 a0).bind fun t190 => (if 0 ≤ t190 then (if t190 < (l4.length : Int) then (some ((rd_T29 l4 t190).f0, (rd_T29 l4 t190).f1, (rd_T29 l4 t190).f2, (rd_T29 l4 t190).f3)) else (none)) else (none))) else ((spec_TreeSplit.f k (wrap64 (a1 - a0))).bind fun t192 => ((spec_l3Node.f k a0 (wrap64 (a0 + t192)) a2 a3 l4).bind fun bt193 => ((spec_l3Node.f k (wrap64 (a0 + t192)) a1 a2 a3 l4).bind fun bt197 => ((spec_HashPair.f k bt193.1 bt193.2.1 bt193.2.2.1 bt193.2.2.2 bt197.1 bt197.2.1 bt197.2.2.1 bt197.2.2.2).bind fun bt201 => (some (bt201.1, bt201.2.1, bt201.2.2.1, bt201.2.2.2)))))))
set_option maxHeartbeats 8000000 in
set_option maxRecDepth 100000 in
theorem spec_l3Node.calls (k : Nat) : ∀ (a0 : Int) (a1 : Int) (a2 : Int) (a3 : Int) (A4 : Option Addr) (c4 : Nat) (l4 : List (S29)) (r1 : Int) (r2 : Int) (r3 : Int) (r4 : Int) (w : World) (hr4 : Kd.C k29 w A4 l4.length l4) (hc4 : l4.length ≤ c4) (h : spec_l3Node.f k a0 a1 a2 a3 l4 = some (r1, r2, r3, r4)),
    Calls Try.prog 74 #[.int .i64 a0, .int .i64 a1, .int .i64 a2, .int .i64 a3, .slice A4 l4.length c4] w fun e w' => e = .returned (.agg #[.int .u64 r1, .int .u64 r2, .int .u64 r3, .int .u64 r4]) ∧ Below w.heap.size w w' := by
  induction k using Nat.strongRecOn with
  | _ k ih =>
  intro a0 a1 a2 a3 A4 c4 l4 r1 r2 r3 r4 w hr4 hc4 h
  cases k with
  | zero => exact absurd h (by simp [spec_l3Node.f])
  | succ k =>
  simp only [spec_l3Node.f] at h
  have hu29 := Try.underlying29
  have HR4 := Aside0.mk hr4
  have HC4 := Aside0.mk hc4
  clear hr4 hc4
  have HB := Aside0.mk (Below.refl w.heap.size w)
  have H : (if a0 ≥ a2 then ((spec_PeaksCount.f k a2).bind fun t187 => ((spec_l3Rests.f k 0 a3 a2 a0).bind fun t188 => (if 0 ≤ (wrap64 (t187 + t188)) then (if (wrap64 (t187 + t188)) < (l4.length : Int) then (some ((rd_T29 l4 (wrap64 (t187 + t188))).f0, (rd_T29 l4 (wrap64 (t187 + t188))).f1, (rd_T29 l4 (wrap64 (t187 + t188))).f2, (rd_T29 l4 (wrap64 (t187 + t188))).f3)) else (none)) else (none)))) else (if a1 ≤ a2 then ((spec_l3PeaksAhead.f k a2 a0).bind fun t190 => (if 0 ≤ t190 then (if t190 < (l4.length : Int) then (some ((rd_T29 l4 t190).f0, (rd_T29 l4 t190).f1, (rd_T29 l4 t190).f2, (rd_T29 l4 t190).f3)) else (none)) else (none))) else ((spec_TreeSplit.f k (wrap64 (a1 - a0))).bind fun t192 => ((spec_l3Node.f k a0 (wrap64 (a0 + t192)) a2 a3 l4).bind fun bt193 => ((spec_l3Node.f k (wrap64 (a0 + t192)) a1 a2 a3 l4).bind fun bt197 => ((spec_HashPair.f k bt193.1 bt193.2.1 bt193.2.2.1 bt193.2.2.2 bt197.1 bt197.2.1 bt197.2.2.1 bt197.2.2.2).bind fun bt201 => (some (bt201.1, bt201.2.1, bt201.2.2.1, bt201.2.2.2)))))))) = some (r1, r2, r3, r4) := h
  clear h
  by_cases c6 : a0 ≥ a2
  · rw [if_pos c6] at H
    have c6b0 : decide (a2 ≤ a0) = true := decide_eq_true c6
    clear c6
    obtain ⟨t187, A7, H⟩ := bnd_ H
    obtain ⟨t188, A8, H⟩ := bnd_ H
    obtain ⟨ji9, hji9⟩ : ∃ j_ : Int, (wrap64 (t187 + t188)) = j_ := ⟨_, rfl⟩
    replace H : (if 0 ≤ (ji9) then (if (ji9) < (l4.length : Int) then (some ((rd_T29 l4 (ji9)).f0, (rd_T29 l4 (ji9)).f1, (rd_T29 l4 (ji9)).f2, (rd_T29 l4 (ji9)).f3)) else (none)) else (none)) = some (r1, r2, r3, r4) := by first | (rw [hji9] at H; exact H) | (simp only [hji9] at H ⊢; exact H)
    (try rw [hji9] at A7)
    (try rw [hji9] at A8)
    have hji9w : (IntKind.i64.wrap (t187 + t188)) = ji9 := (i64_w _).trans hji9
    by_cases c10 : 0 ≤ (ji9)
    · rw [if_pos c10] at H
      have c10b0 : decide (0 ≤ (ji9)) = true := decide_eq_true c10
      clear c10
      by_cases c11 : (ji9) < (l4.length : Int)
      · rw [if_pos c11] at H
        have c11b0 : decide ((ji9) < (l4.length : Int)) = true := decide_eq_true c11
        clear c11
        simp only [Option.some.injEq, Prod.mk.injEq] at H
        obtain ⟨rfl, rfl, rfl, rfl⟩ := H
        go_enter Try.func74, Try.ntmps74
        go_wp2_with (first | ((with_reducible refine gate_dst (N := 10) rfl ?_); refine boxE_ (cs := #[.int .u64 0, .int .u64 0, .int .u64 0, .int .u64 0]) (t := 29) ?_; intro gb186 hg w12 hbox hb; have BK186 := Aside0.mk (hbox); have GW186 := sizeB_ hg; have GE186 := sizeB_ hg; replace HB := stepB_ hb; clear hb hbox hg) | ((with_reducible refine gate_callee (f := 50) rfl ?_); refine goL_ (some 17) Try.func50 #[.int .i64 a2] ?_; (with_reducible refine (spec_PeaksCount.calls k a2 t187 _ A7.out).mono ?_); rintro e w' ⟨rfl, ⟨nd, rfl⟩⟩; refine ⟨_, rfl, ?_⟩; (try (rw [drewN_self w12]; generalize hq_ : World.drewN w12 _ = w12; have n0_ : Aside0 (w12.heap[gb186]? = some (.cells #[.int .u64 0, .int .u64 0, .int .u64 0, .int .u64 0] 29 (0, 0))) := ⟨by rw [← hq_]; exact (blkU_ BK186.out)⟩; have n1_ : Aside0 (Below w.heap.size w w12) := ⟨by rw [← hq_]; exact bel_⟩; clear BK186 HB hq_; have BK186 := n0_; have HB := n1_; clear n0_ n1_))) | ((with_reducible refine gate_callee (f := 67) rfl ?_); refine goL_ (some 21) Try.func67 #[.int .i64 0, .int .i64 a3, .int .i64 a2, .int .i64 a0] ?_; (with_reducible refine (spec_l3Rests.calls k 0 a3 a2 a0 t188 _ A8.out).mono ?_); rintro e w' ⟨rfl, ⟨nd, rfl⟩⟩; refine ⟨_, rfl, ?_⟩; (try (rw [drewN_self w12]; generalize hq_ : World.drewN w12 _ = w12; have n0_ : Aside0 (w12.heap[gb186]? = some (.cells #[.int .u64 0, .int .u64 0, .int .u64 0, .int .u64 0] 29 (0, 0))) := ⟨by rw [← hq_]; exact (blkU_ BK186.out)⟩; have n1_ : Aside0 (Below w.heap.size w w12) := ⟨by rw [← hq_]; exact bel_⟩; clear BK186 HB hq_; have BK186 := n0_; have HB := n1_; clear n0_ n1_)); have p189 : 0 ≤ ((ji9) : Int) := ofd_; have q189 : (ji9) < (l4.length : Int) := ofd_; obtain ⟨ad189, e189, hx189_0, hx189_1, hx189_2, hx189_3⟩ := at_T29 HR4.out (ji9) p189 q189; cases e189; replace hx189_0 := pw_cell_below HB.out hx189_0; replace hx189_1 := pw_cell_below HB.out hx189_1; replace hx189_2 := pw_cell_below HB.out hx189_2; replace hx189_3 := pw_cell_below HB.out hx189_3; replace p189 := eq_true p189; replace q189 := eq_true q189; obtain ⟨hcz13_0, hcz13_1, hcz13_2, hcz13_3, hfz13_0, hfz13_1, hfz13_2, hfz13_3⟩ := cz4_ BK186.out))
        refine bodyPost_ret (results_cell_row rfl _ _ gb186 29 #[.int .u64 ((rd_T29 l4 (ji9)).f0), .int .u64 ((rd_T29 l4 (ji9)).f1), .int .u64 ((rd_T29 l4 (ji9)).f2), .int .u64 ((rd_T29 l4 (ji9)).f3)] (0, 0) _ rfl (blkF_ BK186.out) Try.underlying29 rfl (by kernel_rfl)) rfl ?_
        exact ⟨by first | rfl | (simp [errW_none, errW_some] <;> rfl) | (simp only [← hji9]; first | rfl | (simp [errW_none, errW_some] <;> rfl)) | (simp [*, errW_none, errW_some] <;> rfl), bel_⟩
      · rw [if_neg c11] at H
        exact absurd H (by simp)
    · rw [if_neg c10] at H
      exact absurd H (by simp)
  · rw [if_neg c6] at H
    have c6b0 : decide (a2 ≤ a0) = false := decide_eq_false c6
    clear c6
    by_cases c14 : a1 ≤ a2
    · rw [if_pos c14] at H
      have c14b0 : decide (a1 ≤ a2) = true := decide_eq_true c14
      clear c14
      obtain ⟨t190, A15, H⟩ := bnd_ H
      by_cases c16 : 0 ≤ t190
      · rw [if_pos c16] at H
        have c16b0 : decide (0 ≤ t190) = true := decide_eq_true c16
        clear c16
        by_cases c17 : t190 < (l4.length : Int)
        · rw [if_pos c17] at H
          have c17b0 : decide (t190 < (l4.length : Int)) = true := decide_eq_true c17
          clear c17
          simp only [Option.some.injEq, Prod.mk.injEq] at H
          obtain ⟨rfl, rfl, rfl, rfl⟩ := H
          go_enter Try.func74, Try.ntmps74
          go_wp2_with (first | ((with_reducible refine gate_dst (N := 10) rfl ?_); refine boxE_ (cs := #[.int .u64 0, .int .u64 0, .int .u64 0, .int .u64 0]) (t := 29) ?_; intro gb186 hg w18 hbox hb; have BK186 := Aside0.mk (hbox); have GW186 := sizeB_ hg; have GE186 := sizeB_ hg; replace HB := stepB_ hb; clear hb hbox hg) | ((with_reducible refine gate_callee (f := 120) rfl ?_); refine goL_ (some 31) Try.func120 #[.int .i64 a2, .int .i64 a0] ?_; (with_reducible refine (spec_l3PeaksAhead.calls k a2 a0 t190 _ A15.out).mono ?_); rintro e w' ⟨rfl, ⟨nd, rfl⟩⟩; refine ⟨_, rfl, ?_⟩; (try (rw [drewN_self w18]; generalize hq_ : World.drewN w18 _ = w18; have n0_ : Aside0 (w18.heap[gb186]? = some (.cells #[.int .u64 0, .int .u64 0, .int .u64 0, .int .u64 0] 29 (0, 0))) := ⟨by rw [← hq_]; exact (blkU_ BK186.out)⟩; have n1_ : Aside0 (Below w.heap.size w w18) := ⟨by rw [← hq_]; exact bel_⟩; clear BK186 HB hq_; have BK186 := n0_; have HB := n1_; clear n0_ n1_)); have p191 : 0 ≤ (t190 : Int) := ofd_; have q191 : t190 < (l4.length : Int) := ofd_; obtain ⟨ad191, e191, hx191_0, hx191_1, hx191_2, hx191_3⟩ := at_T29 HR4.out t190 p191 q191; cases e191; replace hx191_0 := pw_cell_below HB.out hx191_0; replace hx191_1 := pw_cell_below HB.out hx191_1; replace hx191_2 := pw_cell_below HB.out hx191_2; replace hx191_3 := pw_cell_below HB.out hx191_3; replace p191 := eq_true p191; replace q191 := eq_true q191; obtain ⟨hcz19_0, hcz19_1, hcz19_2, hcz19_3, hfz19_0, hfz19_1, hfz19_2, hfz19_3⟩ := cz4_ BK186.out))
          refine bodyPost_ret (results_cell_row rfl _ _ gb186 29 #[.int .u64 ((rd_T29 l4 t190).f0), .int .u64 ((rd_T29 l4 t190).f1), .int .u64 ((rd_T29 l4 t190).f2), .int .u64 ((rd_T29 l4 t190).f3)] (0, 0) _ rfl (blkF_ BK186.out) Try.underlying29 rfl (by kernel_rfl)) rfl ?_
          exact ⟨rfl_, bel_⟩
        · rw [if_neg c17] at H
          exact absurd H (by simp)
      · rw [if_neg c16] at H
        exact absurd H (by simp)
    · rw [if_neg c14] at H
      have c14b0 : decide (a1 ≤ a2) = false := decide_eq_false c14
      clear c14
      obtain ⟨t192, A20, H⟩ := bnd_ H
      obtain ⟨⟨t193, t194, t195, t196⟩, A21, H⟩ := bnd_ H
      dsimp only at H
      obtain ⟨⟨t197, t198, t199, t200⟩, A22, H⟩ := bnd_ H
      dsimp only at H
      obtain ⟨⟨t201, t202, t203, t204⟩, A23, H⟩ := bnd_ H
      dsimp only at H
      simp only [Option.some.injEq, Prod.mk.injEq] at H
      obtain ⟨rfl, rfl, rfl, rfl⟩ := H
      go_enter Try.func74, Try.ntmps74
      go_wp2_with (first | ((with_reducible refine gate_dst (N := 10) rfl ?_); refine boxE_ (cs := #[.int .u64 0, .int .u64 0, .int .u64 0, .int .u64 0]) (t := 29) ?_; intro gb186 hg w24 hbox hb; have BK186 := Aside0.mk (hbox); have GW186 := sizeB_ hg; have GE186 := sizeB_ hg; replace HB := stepB_ hb; clear hb hbox hg) | ((with_reducible refine gate_callee (f := 88) rfl ?_); refine goL_ (some 38) Try.func88 #[.int .i64 (wrap64 (a1 - a0))] ?_; (with_reducible refine (spec_TreeSplit.calls k (wrap64 (a1 - a0)) t192 _ A20.out).mono ?_); rintro e w' ⟨rfl, ⟨nd, rfl⟩⟩; refine ⟨_, rfl, ?_⟩; (try (rw [drewN_self w24]; generalize hq_ : World.drewN w24 _ = w24; have n0_ : Aside0 (w24.heap[gb186]? = some (.cells #[.int .u64 0, .int .u64 0, .int .u64 0, .int .u64 0] 29 (0, 0))) := ⟨by rw [← hq_]; exact (blkU_ BK186.out)⟩; have n1_ : Aside0 (Below w.heap.size w w24) := ⟨by rw [← hq_]; exact bel_⟩; clear BK186 HB hq_; have BK186 := n0_; have HB := n1_; clear n0_ n1_))) | ((with_reducible refine gate_callee (f := 74) rfl ?_); refine goL_ (some 45) Try.func74 #[.int .i64 a0, .int .i64 (wrap64 (a0 + t192)), .int .i64 a2, .int .i64 a3, .slice A4 l4.length c4] ?_; (with_reducible refine (ih k (by omega) a0 (wrap64 (a0 + t192)) a2 a3 _ _ l4 t193 t194 t195 t196 _ ?side1 ?side2 A21.out).mono ?_); (case side1 => repeat (first | exact (Kd.C_below HR4.out HB.out) | (with_reducible refine Kd.C_alloc ?_ _) | (with_reducible refine Kd.C_drewN ?_ _) | (with_reducible refine Kd.C_drew ?_))); (case side2 => exact HC4.out); rintro e w25 ⟨rfl, hb⟩; refine ⟨_, rfl, ?_⟩; replace BK186 := blkBel_ BK186.out hb; replace HB := stepB_ hb; (try clear hb)) | ((with_reducible refine gate_callee (f := 74) rfl ?_); refine goL_ (some 51) Try.func74 #[.int .i64 (wrap64 (a0 + t192)), .int .i64 a1, .int .i64 a2, .int .i64 a3, .slice A4 l4.length c4] ?_; (with_reducible refine (ih k (by omega) (wrap64 (a0 + t192)) a1 a2 a3 _ _ l4 t197 t198 t199 t200 _ ?side1 ?side2 A22.out).mono ?_); (case side1 => repeat (first | exact (Kd.C_below HR4.out HB.out) | (with_reducible refine Kd.C_alloc ?_ _) | (with_reducible refine Kd.C_drewN ?_ _) | (with_reducible refine Kd.C_drew ?_))); (case side2 => exact HC4.out); rintro e w26 ⟨rfl, hb⟩; refine ⟨_, rfl, ?_⟩; replace BK186 := blkBel_ BK186.out hb; replace HB := stepB_ hb; (try clear hb)) | ((with_reducible refine gate_callee (f := 119) rfl ?_); refine goL_ (some 52) Try.func119 #[.agg #[.int .u64 t193, .int .u64 t194, .int .u64 t195, .int .u64 t196], .agg #[.int .u64 t197, .int .u64 t198, .int .u64 t199, .int .u64 t200]] ?_; (with_reducible refine (spec_HashPair.calls k t193 t194 t195 t196 t197 t198 t199 t200 t201 t202 t203 t204 _ A23.out).mono ?_); rintro e w27 ⟨rfl, hb⟩; refine ⟨_, rfl, ?_⟩; replace BK186 := blkBel_ BK186.out hb; replace HB := stepB_ hb; (try clear hb); obtain ⟨hcz28_0, hcz28_1, hcz28_2, hcz28_3, hfz28_0, hfz28_1, hfz28_2, hfz28_3⟩ := cz4_ BK186.out))
      refine bodyPost_ret (results_cell_row rfl _ _ gb186 29 #[.int .u64 t201, .int .u64 t202, .int .u64 t203, .int .u64 t204] (0, 0) _ rfl (blkF_ BK186.out) Try.underlying29 rfl (by kernel_rfl)) rfl ?_
      exact ⟨rfl_, bel_⟩
end
end Go.Proofs.Ytflckegggopdnaa.B
