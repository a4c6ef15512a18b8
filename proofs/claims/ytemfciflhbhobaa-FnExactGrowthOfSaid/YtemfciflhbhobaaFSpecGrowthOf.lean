/- What the Go functions loop.example/belfry/spec.GrowthOf do is what the Lean functions .f of their names here say; condition: .f gives an answer. (Written by the session's program pp.py over the kit's print; Lean checks it.) -/
import Derived.Test.YtemfciflhbhobaaK
import Derived.Test.YtemfciflhbhobaaM
import Derived.Test.YtemfciflhbhobaaGFall1
import Derived.Test.YtemfciflhbhobaaGRest1
import Derived.Test.YtemfciflhbhobaaGRuns1
import Derived.Test.YtemfciflhbhobaaGTree1
namespace Go.Proofs.Ytemfciflhbhobaa.B
open Go.RowKit Go.Proofs.YtemfciflhbhobaaW.PrintWords Go.Proofs.YtemfciflhbhobaaW.PrintLast Go.Proofs.YtemfciflhbhobaaW.PrintMore
attribute [local go_sem] max2_int min2_int max_two min_two max_three min_three max_four min_four   -- for this text's walks alone
set_option linter.unusedVariables false
set_option linter.unusedSimpArgs false

section
/-! ### spec_GrowthOf: function 86 -/
mutual
def spec_GrowthOf.j0 : Nat → List ByteArray → Int → Bool → Option ((List (S29)) × Bool)
  | 0, _, _, _ => none
  | k + 1, x0, x1, x15 => if x15 = true then (some ((([] : List (S29))), false)) else (if x1 = 0 then (spec_GrowthOf.j1 k x0 x1 true) else (spec_GrowthOf.j1 k x0 x1 (x1 == (x0.length : Int))))
def spec_GrowthOf.j1 : Nat → List ByteArray → Int → Bool → Option ((List (S29)) × Bool)
  | 0, _, _, _ => none
  | k + 1, x0, x1, x24 => if x24 = true then (some ((([] : List (S29))), true)) else (if 0 ≤ x1 then (if x1 ≤ (x0.length : Int) then ((spec_TreePeaks.f k (x0.take (x1 : Int).toNat)).bind fun t1552 => ((spec_l3RestRoots.f k x0 0 (x0.length : Int) x1).bind fun t1555 => ((spec_l3Digests.f k t1552 t1555).bind fun t1558 => (some (t1558, true))))) else (none)) else (none))
end
def spec_GrowthOf.f (k : Nat) (l0 : List ByteArray) (a1 : Int) : Option ((List (S29)) × Bool) := (spec_LeavesOk.f k l0).bind fun t1543 => (if t1543 = true then ((spec_l3Sizes.f a1 (l0.length : Int)).bind fun t1544 => (spec_GrowthOf.j0 k l0 a1 (!t1544))) else (spec_GrowthOf.j0 k l0 a1 true))
theorem spec_GrowthOf.mono_l : ∀ k, (∀ y0 y1 y2, LeO (spec_GrowthOf.j0 k y0 y1 y2) (spec_GrowthOf.j0 (k + 1) y0 y1 y2)) ∧ (∀ y0 y1 y2, LeO (spec_GrowthOf.j1 k y0 y1 y2) (spec_GrowthOf.j1 (k + 1) y0 y1 y2))
  | 0 => ⟨fun _ _ _ r h => by simp [spec_GrowthOf.j0] at h, fun _ _ _ r h => by simp [spec_GrowthOf.j1] at h⟩
  | k + 1 => by
    obtain ⟨ih0, ih1⟩ := spec_GrowthOf.mono_l k
    refine ⟨?_, ?_⟩
    · intro y0 y1 y2
      unfold spec_GrowthOf.j0
      repeat' first | (with_reducible first | exact ih0 _ _ _ | exact ih1 _ _ _ | exact spec_LeavesOk.mono _ _ | exact spec_TreePeaks.mono _ _ | exact spec_l3Digests.mono _ _ _ | exact spec_l3RestRoots.mono _ _ _ _ _ | exact LeO.refl _ | exact LeO.none _ | refine LeO.ite ?_ ?_ | refine LeO.bind ?_ (fun _ => ?_)) | exact ih0 _ _ _ | exact ih1 _ _ _ | exact LeO.none _ | refine LeO.ite ?_ ?_ | refine LeO.bind ?_ (fun _ => ?_)
    · intro y0 y1 y2
      unfold spec_GrowthOf.j1
      repeat' first | (with_reducible first | exact ih0 _ _ _ | exact ih1 _ _ _ | exact spec_LeavesOk.mono _ _ | exact spec_TreePeaks.mono _ _ | exact spec_l3Digests.mono _ _ _ | exact spec_l3RestRoots.mono _ _ _ _ _ | exact LeO.refl _ | exact LeO.none _ | refine LeO.ite ?_ ?_ | refine LeO.bind ?_ (fun _ => ?_)) | exact ih0 _ _ _ | exact ih1 _ _ _ | exact LeO.none _ | refine LeO.ite ?_ ?_ | refine LeO.bind ?_ (fun _ => ?_)
theorem spec_GrowthOf.mono : ∀ a0 a1 k, LeO (spec_GrowthOf.f k a0 a1) (spec_GrowthOf.f (k + 1) a0 a1) := by
  intro a0 a1 k
  obtain ⟨ih0, ih1⟩ := spec_GrowthOf.mono_l k
  unfold spec_GrowthOf.f
  repeat' first | (with_reducible first | exact ih0 _ _ _ | exact ih1 _ _ _ | exact spec_LeavesOk.mono _ _ | exact spec_TreePeaks.mono _ _ | exact spec_l3Digests.mono _ _ _ | exact spec_l3RestRoots.mono _ _ _ _ _ | exact LeO.refl _ | exact LeO.none _ | refine LeO.ite ?_ ?_ | refine LeO.bind ?_ (fun _ => ?_)) | exact ih0 _ _ _ | exact ih1 _ _ _ | exact LeO.none _ | refine LeO.ite ?_ ?_ | refine LeO.bind ?_ (fun _ => ?_)
set_option maxHeartbeats 8000000 in
set_option maxRecDepth 100000 in
theorem spec_GrowthOf.calls (k : Nat) (A0 : Option Addr) (c0 : Nat) (l0 : List ByteArray) (a1 : Int) (r1 : List (S29)) (r2 : Bool) (w : World) (hr0 : Kd.C Kd.string w A0 l0.length l0) (hc0 : l0.length ≤ c0) (h : spec_GrowthOf.f k l0 a1 = some (r1, r2)) :
    Calls Try.prog 86 #[.slice A0 l0.length c0, .int .i64 a1] w fun e w' => ∃ v0_ : Value, e = .returned (.tuple #[v0_, .bool r2]) ∧ Kd.R k29 29 w' w.heap.size (fun _ => True) v0_ r1 ∧ Below w.heap.size w w' := by
  have HR0 := Aside0.mk hr0
  have HC0 := Aside0.mk hc0
  clear hr0 hc0
  have HB := Aside0.mk (Below.refl w.heap.size w)
  have H : ((spec_LeavesOk.f k l0).bind fun t1543 => (if t1543 = true then ((spec_l3Sizes.f a1 (l0.length : Int)).bind fun t1544 => (spec_GrowthOf.j0 k l0 a1 (!t1544))) else (spec_GrowthOf.j0 k l0 a1 true))) = some (r1, r2) := h
  clear h
  have HC3 := Aside0.mk H
  clear H
  go_enter Try.func86, Try.ntmps86
  go_upto_region 1 with (fail)
  go_cut [15] (fun v15 wc => ∃ (kq : Nat) (x15_2 : Bool), v15 = .bool x15_2 ∧ Aside0 (spec_GrowthOf.j0 kq l0 a1 x15_2 = some (r1, r2)) ∧ Aside0 (kq ≤ k) ∧ Aside0 (Below w.heap.size w wc))
  case first =>
    have H := HC3.out
    clear HC3
    obtain ⟨t1543, A4, H⟩ := bnd_ H
    by_cases c5 : t1543 = true
    · subst c5
      rw [if_pos rfl] at H
      obtain ⟨t1544, A6, H⟩ := bnd_ H
      have H' := Aside0.mk H
      clear H
      go_wp2_with (first | ((with_reducible refine gate_callee (f := 53) rfl ?_); refine goL_ (some 7) Try.func53 #[.slice A0 l0.length c0] ?_; (with_reducible refine (spec_LeavesOk.calls k _ _ l0 true _ ?side1 ?side2 A4.out).mono ?_); (case side1 => repeat (first | exact (Kd.C_below HR0.out HB.out) | (with_reducible refine Kd.C_alloc ?_ _) | (with_reducible refine Kd.C_drewN ?_ _) | (with_reducible refine Kd.C_drew ?_))); (case side2 => exact HC0.out); rintro e w' ⟨rfl, ⟨nd, rfl⟩⟩; refine ⟨_, rfl, ?_⟩) | (go_at_call 123; (with_reducible refine (spec_l3Sizes.calls a1 (l0.length : Int) t1544 _ A6.out).mono ?_); rintro e w' ⟨rfl, ⟨nd, rfl⟩⟩))
      go_meet
      case rel => exact ⟨_, (!t1544), (by first | rfl | (simp; done) | (simp [*]; done)), H', ⟨by first | omega | exact Nat.le_refl _⟩, ⟨bel_⟩⟩
    · replace c5 := Bool.eq_false_iff.mpr c5
      subst c5
      rw [if_neg (show ¬ (false = true) by decide)] at H
      have H' := Aside0.mk H
      clear H
      go_wp2_with (first | ((with_reducible refine gate_callee (f := 53) rfl ?_); refine goL_ (some 7) Try.func53 #[.slice A0 l0.length c0] ?_; (with_reducible refine (spec_LeavesOk.calls k _ _ l0 false _ ?side1 ?side2 A4.out).mono ?_); (case side1 => repeat (first | exact (Kd.C_below HR0.out HB.out) | (with_reducible refine Kd.C_alloc ?_ _) | (with_reducible refine Kd.C_drewN ?_ _) | (with_reducible refine Kd.C_drew ?_))); (case side2 => exact HC0.out); rintro e w' ⟨rfl, ⟨nd, rfl⟩⟩; refine ⟨_, rfl, ?_⟩))
      go_meet
      case rel => exact ⟨_, (true), (by first | rfl | (simp; done) | (simp [*]; done)), H', ⟨by first | omega | exact Nat.le_refl _⟩, ⟨bel_⟩⟩
  case rest =>
    clear HC3
    (try clear c5)
    obtain ⟨kq, x15_2, rfl, HA, HJ2, HB⟩ := hcut
    cases kq with
    | zero => exact absurd HA.out (by simp [spec_GrowthOf.j0])
    | succ kj2 =>
      have H := HA.out
      clear HA
      simp only [spec_GrowthOf.j0] at H
      by_cases c7 : x15_2 = true
      · subst c7
        rw [if_pos rfl] at H
        obtain ⟨y1545, hy1545⟩ : ∃ y_ : List (S29), y_ = (([] : List (S29))) := ⟨_, rfl⟩
        replace H : (some (y1545, false)) = some (r1, r2) := by first | (rw [hy1545]; with_reducible exact H) | (have H2_ := (Option.bind_some _ _).symm.trans H; rw [hy1545]; with_reducible exact H2_) | (have H2_ := (Option.bind_some _ _).symm.trans H; with_reducible exact H2_) | with_reducible exact H | (rw [hy1545]; exact H) | exact H
        have Ny1545 := Aside0.mk hy1545
        clear hy1545
        simp only [Option.some.injEq, Prod.mk.injEq] at H
        obtain ⟨rfl, rfl⟩ := H
        go_wp2_with (first | ((with_reducible refine gate_dst (N := 16) rfl ?_); (try (refine gate_guard (by rfl) ?_; dsimp only)); refine Kd.R_lit k29 _ 29 ?hg (N := 16) ?hd (xs := ([] : List (S29))) (inner := []) (ok := fun _ => True) (okp := fun _ => True) ?hr ?hp (fun _ hk => hk) trivial (Below.refl _ _) (Nat.le_refl _) (by simp) ?_; (case hd => rfl); (case hg => rfl); (case hr => first | (go_simp; done) | (go_simp; rfl)); (case hp => exact (Reps.none _ _)); intro v1546 w8 ho9 hb hg_ hnew_; clear hg_ hnew_; (first | rw [← Ny1545.out] at ho9 | (simp only [Int.reduceToNat] at ho9; rw [← Ny1545.out] at ho9)); have HO1547 := Aside0.mk (Kd.R_lower ho9 (below_size bel_)); replace HB := stepB_ hb; clear hb ho9))
        go_ret2
        exact ⟨_, rfl_, by (with_reducible repeat (first | apply Kd.R_alloc | apply Kd.R_drewN | apply Kd.R_drew)); exact HO1547.out, bel_⟩
      · replace c7 := Bool.eq_false_iff.mpr c7
        subst c7
        rw [if_neg (show ¬ (false = true) by decide)] at H
        have HC10 := Aside0.mk H
        clear H
        go_upto_region 3 with (fail)
        go_cut [24] (fun v24 wc => ∃ (kq : Nat) (x24_9 : Bool), v24 = .bool x24_9 ∧ Aside0 (spec_GrowthOf.j1 kq l0 a1 x24_9 = some (r1, r2)) ∧ Aside0 (kq ≤ kj2) ∧ Aside0 (Below w.heap.size w wc))
        case first =>
          have H := HC10.out
          clear HC10
          by_cases c11 : a1 = 0
          · rw [if_pos c11] at H
            have c11b0 : (a1 == 0) = true := beq_iff_eq.mpr c11
            have c11b1 : (a1 != 0) = false := bne_eq_false_iff_eq.mpr c11
            clear c11
            (first | rw [c11b0] | (simp only [i64_w, i32_w]; rw [c11b0]) | skip)
            have H' := Aside0.mk H
            clear H
            go_wp2
            go_meet
            case rel => exact ⟨_, (true), (by first | rfl | (simp; done) | (simp [*]; done)), H', ⟨by have := HJ2.out; first | omega | exact Nat.le_refl _⟩, ⟨bel_⟩⟩
          · rw [if_neg c11] at H
            have c11b0 : (a1 == 0) = false := beq_eq_false_iff_ne.mpr c11
            have c11b1 : (a1 != 0) = true := bne_iff_ne.mpr c11
            (first | rw [c11b0] | (simp only [i64_w, i32_w]; rw [c11b0]) | skip)
            have H' := Aside0.mk H
            clear H
            go_wp2
            go_meet
            case rel => exact ⟨_, ((a1 == (l0.length : Int))), (by first | rfl | (simp; done) | (simp [*]; done)), H', ⟨by have := HJ2.out; first | omega | exact Nat.le_refl _⟩, ⟨bel_⟩⟩
        case rest =>
          clear HC10
          (try clear c5); (try clear c7); (try clear c11); (try clear c11b0); (try clear c11b1)
          obtain ⟨kq, x24_9, rfl, HA, HJ9, HB⟩ := hcut
          cases kq with
          | zero => exact absurd HA.out (by simp [spec_GrowthOf.j1])
          | succ kj9 =>
            have H := HA.out
            clear HA
            simp only [spec_GrowthOf.j1] at H
            by_cases c12 : x24_9 = true
            · subst c12
              rw [if_pos rfl] at H
              obtain ⟨y1548, hy1548⟩ : ∃ y_ : List (S29), y_ = (([] : List (S29))) := ⟨_, rfl⟩
              replace H : (some (y1548, true)) = some (r1, r2) := by first | (rw [hy1548]; with_reducible exact H) | (have H2_ := (Option.bind_some _ _).symm.trans H; rw [hy1548]; with_reducible exact H2_) | (have H2_ := (Option.bind_some _ _).symm.trans H; with_reducible exact H2_) | with_reducible exact H | (rw [hy1548]; exact H) | exact H
              have Ny1548 := Aside0.mk hy1548
              clear hy1548
              simp only [Option.some.injEq, Prod.mk.injEq] at H
              obtain ⟨rfl, rfl⟩ := H
              go_wp2_with (first | ((with_reducible refine gate_dst (N := 25) rfl ?_); (try (refine gate_guard (by rfl) ?_; dsimp only)); refine Kd.R_lit k29 _ 29 ?hg (N := 25) ?hd (xs := ([] : List (S29))) (inner := []) (ok := fun _ => True) (okp := fun _ => True) ?hr ?hp (fun _ hk => hk) trivial (Below.refl _ _) (Nat.le_refl _) (by simp) ?_; (case hd => rfl); (case hg => rfl); (case hr => first | (go_simp; done) | (go_simp; rfl)); (case hp => exact (Reps.none _ _)); intro v1549 w13 ho14 hb hg_ hnew_; clear hg_ hnew_; (first | rw [← Ny1548.out] at ho14 | (simp only [Int.reduceToNat] at ho14; rw [← Ny1548.out] at ho14)); have HO1550 := Aside0.mk (Kd.R_lower ho14 (below_size bel_)); replace HB := stepB_ hb; clear hb ho14))
              go_ret2
              exact ⟨_, rfl_, by (with_reducible repeat (first | apply Kd.R_alloc | apply Kd.R_drewN | apply Kd.R_drew)); exact HO1550.out, bel_⟩
            · replace c12 := Bool.eq_false_iff.mpr c12
              subst c12
              rw [if_neg (show ¬ (false = true) by decide)] at H
              by_cases c15 : 0 ≤ a1
              · rw [if_pos c15] at H
                have c15b0 := eq_true c15
                have c15b1 : decide (0 ≤ a1) = true := decide_eq_true c15
                clear c15
                by_cases c16 : a1 ≤ (l0.length : Int)
                · rw [if_pos c16] at H
                  have c16b0 := eq_true c16
                  have c16b1 : decide (a1 ≤ (l0.length : Int)) = true := decide_eq_true c16
                  clear c16
                  obtain ⟨t1552, A17, H⟩ := bnd_ H
                  obtain ⟨t1555, A18, H⟩ := bnd_ H
                  obtain ⟨t1558, A19, H⟩ := bnd_ H
                  simp only [Option.some.injEq, Prod.mk.injEq] at H
                  obtain ⟨rfl, rfl⟩ := H
                  obtain ⟨i020, hi020, _, hsz20, _⟩ := info_parts info9
                  obtain ⟨hcut20, hA20, hC20⟩ := print_take_of (P := Try.prog) Value.string (⟨#[]⟩ : ByteArray) 60 9 .i64 Try.underlying60 hi020 hsz20 A0 c0 l0 a1 (ofd_) (ofd_) HC0.out
                  have HR1551 := Aside0.mk (Kd.C_of_reads (h1 := fun _ => rfl) (hA20 _ (Kd.reads_of_C HR0.out)))
                  have HC1551 := Aside0.mk hC20
                  clear hA20 hC20 hi020 hsz20
                  go_wp2_with (first | ((with_reducible refine gate_callee (f := 63) rfl ?_); refine goesL_ (some 29) rfl rfl Try.func63 (by kernel_rfl) rfl #[.slice A0 (l0.take (a1 : Int).toNat).length c0] rfl (by (try simp only [List.map_toArray, List.map_cons, List.map_nil]); first | done | (rw [show (l0.take (a1 : Int).toNat).length = a1.toNat from (by rw [List.length_take]; have h_ : (a1 : Int) ≤ (l0.length : Int) := ofd_; omega)] <;> rfl) | rfl | (simp only [List.length_drop, List.length_take]; rfl)) ?_; (with_reducible refine (spec_TreePeaks.calls kj9 _ _ (l0.take (a1 : Int).toNat) t1552 _ ?side1 ?side2 A17.out).mono ?_); (case side1 => repeat (first | exact (Kd.C_below HR1551.out HB.out) | (with_reducible refine Kd.C_alloc ?_ _) | (with_reducible refine Kd.C_drewN ?_ _) | (with_reducible refine Kd.C_drew ?_))); (case side2 => exact HC1551.out); rintro e w21 ⟨v1553, rfl, ho0, hb⟩; refine ⟨_, rfl, ?_⟩; have HO1554 := Aside0.mk (Kd.R_lower ho0 (below_size bel_)); replace HB := stepB_ hb; (try clear hb); (try clear hk); (try clear ho0)) | ((with_reducible refine gate_callee (f := 131) rfl ?_); refine goL_ (some 34) Try.func131 #[.slice A0 l0.length c0, .int .i64 0, .int .i64 (l0.length : Int), .int .i64 a1] ?_; (with_reducible refine (spec_l3RestRoots.calls kj9 _ _ l0 0 (l0.length : Int) a1 t1555 _ ?side1 ?side2 A18.out).mono ?_); (case side1 => repeat (first | exact (Kd.C_below HR0.out HB.out) | (with_reducible refine Kd.C_alloc ?_ _) | (with_reducible refine Kd.C_drewN ?_ _) | (with_reducible refine Kd.C_drew ?_))); (case side2 => exact HC0.out); rintro e w22 ⟨v1556, rfl, ho0, hb⟩; refine ⟨_, rfl, ?_⟩; have HO1557 := Aside0.mk (Kd.R_lower (Kd.R_new' ho0 (Kd.R_lt (kdU_ HO1554.out))) (below_size bel_)); replace HO1554 := Aside0.mk (Kd.R_elder' (kdU_ HO1554.out) (Kd.R_base ho0) hb); replace HB := stepB_ hb; (try clear hb); (try clear hk); (try clear ho0); obtain ⟨Ao23, co23, eo23⟩ := Kd.R_slice HO1554.out; subst eo23; obtain ⟨Ao24, co24, eo24⟩ := Kd.R_slice HO1557.out; subst eo24) | ((with_reducible refine gate_callee (f := 130) rfl ?_); refine goL_ (some 35) Try.func130 #[.slice Ao23 t1552.length co23, .slice Ao24 t1555.length co24] ?_; (with_reducible refine (spec_l3Digests.calls kj9 _ _ t1552 _ _ t1555 t1558 _ ?side1 ?side2 ?side3 ?side4 A19.out).mono ?_); (case side1 => repeat (first | exact (Kd.R_reads' HO1554.out).2.2 | (with_reducible refine Kd.C_alloc ?_ _) | (with_reducible refine Kd.C_drewN ?_ _) | (with_reducible refine Kd.C_drew ?_))); (case side2 => exact (Kd.R_reads' HO1554.out).2.1); (case side3 => repeat (first | exact (Kd.R_reads' HO1557.out).2.2 | (with_reducible refine Kd.C_alloc ?_ _) | (with_reducible refine Kd.C_drewN ?_ _) | (with_reducible refine Kd.C_drew ?_))); (case side4 => exact (Kd.R_reads' HO1557.out).2.1); rintro e w25 ⟨v1559, rfl, ho0, hb⟩; refine ⟨_, rfl, ?_⟩; have HO1560 := Aside0.mk (Kd.R_lower (Kd.R_new' (Kd.R_new' ho0 (Kd.R_lt (kdU_ HO1554.out))) (Kd.R_lt (kdU_ HO1557.out))) (below_size bel_)); replace HO1554 := Aside0.mk (Kd.R_elder' (kdU_ HO1554.out) (Kd.R_base ho0) hb); replace HO1557 := Aside0.mk (Kd.R_elder' (kdU_ HO1557.out) (Kd.R_base ho0) hb); replace HB := stepB_ hb; (try clear hb); (try clear hk); (try clear ho0)))
                  go_ret2
                  exact ⟨_, rfl_, by (with_reducible repeat (first | apply Kd.R_alloc | apply Kd.R_drewN | apply Kd.R_drew)); exact Kd.R_mono HO1560.out (fun _ hk => trivial), bel_⟩
                · rw [if_neg c16] at H
                  exact absurd H (by simp)
              · rw [if_neg c15] at H
                exact absurd H (by simp)

end
end Go.Proofs.Ytemfciflhbhobaa.B
