/- What the Go functions loop.example/belfry/laws.FnLifted do is what the Lean functions .f of their names here say; condition: .f gives an answer. (Written by the session's program pp.py over the kit's print; Lean checks it.) -/
import Derived.Test.YtflckegggopdnaaZLK
import Derived.Test.YtflckegggopdnaaZLM
import Derived.Test.YtflckegggopdnaaZLFImplGrowthLift
import Derived.Test.YtflckegggopdnaaZLFImplGrowthOf
import Derived.Test.YtflckegggopdnaaZLFImplPathOf
import Derived.Test.YtflckegggopdnaaZLFLawsAt
import Derived.Test.YtflckegggopdnaaZLFLawsSameDigests
import Derived.Test.YtflckegggopdnaaZLFSpecDrawGrowthOf
import Derived.Test.YtflckegggopdnaaZLFSpecPathOf
import Derived.Test.YtflckegggopdnaaZLGTree1
namespace Go.Proofs.Ytflckegggopdnaa.B
open Go.RowKit Go.Proofs.YtflckegggopdnaaW.PrintWords Go.Proofs.YtflckegggopdnaaW.PrintLast Go.Proofs.YtflckegggopdnaaW.PrintMore
attribute [local go_sem] max2_int min2_int max_two min_two max_three min_three max_four min_four
set_option linter.unusedVariables false
set_option linter.unusedSimpArgs false
section
def laws_FnLifted.j0 : Nat → List Int → List ByteArray → Int → Bool → Option (Bool)
  | 0, _, _, _, _ => none
  | k + 1, x0, x3, x4, x34 => if x34 = true then (some true) else ((laws_at.f x0 5).bind fun t1459 => (if x4 = 0 then (none) else (if 0 ≤ x4 then (if x4 ≤ (x3.length : Int) then ((impl_PathOf.f k (x3.take (x4 : Int).toNat) (Int.tmod (wrap64 (t1459)) x4)).bind fun bt1464 => ((impl_GrowthOf.f k x3 x4).bind fun bt1468 => ((impl_GrowthLift.f k x4 (x3.length : Int) (Int.tmod (wrap64 (t1459)) x4) bt1464.1 bt1468.1).bind fun bt1472 => ((spec_PathOf.f k x3 (Int.tmod (wrap64 (t1459)) x4)).bind fun bt1476 => (if bt1464.2 = true then (if bt1468.2 = true then (if bt1472.2 = true then ((laws_sameDigests.f k bt1472.1 bt1476.1).bind fun t1480 => (some t1480)) else (some false)) else (some false)) else (some false)))))) else (none)) else (none))))
def laws_FnLifted.f (k : Nat) (l0 : List Int) : Option (Bool) := if (l0.length : Int) > 1048576 then (some true) else ((spec_DrawGrowthOf.f k l0).bind fun bt1454 => ((spec_LeavesOk.f k bt1454.1).bind fun t1458 => (if t1458 = true then (if bt1454.2 < 1 then (laws_FnLifted.j0 k l0 bt1454.1 bt1454.2 true) else (laws_FnLifted.j0 k l0 bt1454.1 bt1454.2 (decide (bt1454.2 > (bt1454.1.length : Int))))) else (laws_FnLifted.j0 k l0 bt1454.1 bt1454.2 true))))
set_option maxHeartbeats 8000000 in
set_option maxRecDepth 100000 in
theorem laws_FnLifted.calls (k : Nat) (A0 : Option Addr) (c0 : Nat) (l0 : List Int) (r : Bool) (hr_ : r = true) (w : World) (hr0 : Kd.C (Kd.int .u8) w A0 l0.length l0) (hc0 : l0.length ≤ c0) (h : laws_FnLifted.f k l0 = some r) :
    Calls Try.prog 8 #[.slice A0 l0.length c0] w fun e w' => e = .returned (.bool r) ∧ Below w.heap.size w w' := by
  have HR0 := Aside0.mk hr0
  have HC0 := Aside0.mk hc0
  clear hr0 hc0
  have HB := Aside0.mk (Below.refl w.heap.size w)
  have H : (if (l0.length : Int) > 1048576 then (some true) else ((spec_DrawGrowthOf.f k l0).bind fun bt1454 => ((spec_LeavesOk.f k bt1454.1).bind fun t1458 => (if t1458 = true then (if bt1454.2 < 1 then (laws_FnLifted.j0 k l0 bt1454.1 bt1454.2 true) else (laws_FnLifted.j0 k l0 bt1454.1 bt1454.2 (decide (bt1454.2 > (bt1454.1.length : Int))))) else (laws_FnLifted.j0 k l0 bt1454.1 bt1454.2 true))))) = some r := h
  clear h
  by_cases c2 : (l0.length : Int) > 1048576
  · rw [if_pos c2] at H
    have c2b0 : decide (1048576 < (l0.length : Int)) = true := decide_eq_true c2
    have c2b1 : decide (1048576 < l0.length) = true := decide_eq_true (by omega)
    clear c2
    obtain rfl := Option.some.inj H
    go_enter Try.func8, Try.ntmps8
    go_wp2
    go_ret
    exact ⟨rfl_, bel_⟩
  · rw [if_neg c2] at H
    have c2b0 : decide (1048576 < (l0.length : Int)) = false := decide_eq_false c2
    have c2b1 : decide (1048576 < l0.length) = false := decide_eq_false (by omega)
    clear c2
    obtain ⟨⟨t1454, t1455⟩, A3, H⟩ := bnd_ H
    dsimp only at H
    have HC4 := Aside0.mk H
    clear H
    go_enter Try.func8, Try.ntmps8
    go_upto_region 4 with (first | ((with_reducible refine gate_callee (f := 28) rfl ?_); refine goL_ (some 19) Try.func28 #[.slice A0 l0.length c0] ?_; (with_reducible refine (spec_DrawGrowthOf.calls k _ _ l0 t1454 t1455 _ ?side1 ?side2 A3.out).mono ?_); (case side1 => repeat (first | exact HR0.out | (with_reducible refine Kd.C_alloc ?_ _) | (with_reducible refine Kd.C_drewN ?_ _) | (with_reducible refine Kd.C_drew ?_))); (case side2 => exact HC0.out); rintro e w5 ⟨v1456, rfl, ho0, hb⟩; refine ⟨_, rfl, ?_⟩; have HO1457 := Aside0.mk (Kd.R_lower ho0 (below_size bel_)); replace HB := stepB_ hb; (try clear hb); (try clear ho0)))
    (try simp only [Act.put, List.setIfInBounds_toArray, List.set_cons_zero, List.set_cons_succ])
    go_cut [34] (fun v34 wc => ∃ (kq : Nat) (x34_3 : Bool), v34 = .bool x34_3 ∧ Aside0 (laws_FnLifted.j0 kq l0 t1454 t1455 x34_3 = some r) ∧ Aside0 (kq ≤ k) ∧ Aside0 (Kd.R Kd.string 9 wc w.heap.size (fun _ => True) v1456 t1454) ∧ Aside0 (Below w.heap.size w wc))
    case first =>
      have H := HC4.out
      clear HC4
      obtain ⟨t1458, A6, H⟩ := bnd_ H
      by_cases c7 : t1458 = true
      · subst c7
        rw [if_pos rfl] at H
        by_cases c8 : t1455 < 1
        · rw [if_pos c8] at H
          have c8b0 : decide (t1455 < 1) = true := decide_eq_true c8
          clear c8
          (first | rw [c8b0] | (simp only [i64_w, i32_w]; rw [c8b0]) | skip)
          have H' := Aside0.mk H
          clear H
          obtain ⟨Ao9, co9, eo9⟩ := Kd.R_slice HO1457.out
          subst eo9
          go_wp2_with (first | ((with_reducible refine gate_callee (f := 30) rfl ?_); refine goL_ (some 23) Try.func30 #[.slice Ao9 t1454.length co9] ?_; (with_reducible refine (spec_LeavesOk.calls k _ _ t1454 true _ ?side1 ?side2 A6.out).mono ?_); (case side1 => repeat (first | exact (Kd.R_reads' HO1457.out).2.2 | (with_reducible refine Kd.C_alloc ?_ _) | (with_reducible refine Kd.C_drewN ?_ _) | (with_reducible refine Kd.C_drew ?_))); (case side2 => exact (Kd.R_reads' HO1457.out).2.1); rintro e w' ⟨rfl, ⟨nd, rfl⟩⟩; refine ⟨_, rfl, ?_⟩))
          go_meet
          case rel => exact ⟨_, (true), (by first | rfl | (simp; done) | (simp [*]; done)), H', ⟨by first | omega | exact Nat.le_refl _⟩, ⟨kdU_ HO1457.out⟩, ⟨bel_⟩⟩
        · rw [if_neg c8] at H
          have c8b0 : decide (t1455 < 1) = false := decide_eq_false c8
          clear c8
          (first | rw [c8b0] | (simp only [i64_w, i32_w]; rw [c8b0]) | skip)
          have H' := Aside0.mk H
          clear H
          obtain ⟨Ao10, co10, eo10⟩ := Kd.R_slice HO1457.out
          subst eo10
          go_wp2_with (first | ((with_reducible refine gate_callee (f := 30) rfl ?_); refine goL_ (some 23) Try.func30 #[.slice Ao10 t1454.length co10] ?_; (with_reducible refine (spec_LeavesOk.calls k _ _ t1454 true _ ?side1 ?side2 A6.out).mono ?_); (case side1 => repeat (first | exact (Kd.R_reads' HO1457.out).2.2 | (with_reducible refine Kd.C_alloc ?_ _) | (with_reducible refine Kd.C_drewN ?_ _) | (with_reducible refine Kd.C_drew ?_))); (case side2 => exact (Kd.R_reads' HO1457.out).2.1); rintro e w' ⟨rfl, ⟨nd, rfl⟩⟩; refine ⟨_, rfl, ?_⟩))
          go_meet
          case rel => exact ⟨_, (decide (t1455 > (t1454.length : Int))), (by first | rfl | (simp; done) | (simp [*]; done)), H', ⟨by first | omega | exact Nat.le_refl _⟩, ⟨kdU_ HO1457.out⟩, ⟨bel_⟩⟩
      · replace c7 := Bool.eq_false_iff.mpr c7
        subst c7
        rw [if_neg (show ¬ (false = true) by decide)] at H
        have H' := Aside0.mk H
        clear H
        obtain ⟨Ao11, co11, eo11⟩ := Kd.R_slice HO1457.out
        subst eo11
        go_wp2_with (first | ((with_reducible refine gate_callee (f := 30) rfl ?_); refine goL_ (some 23) Try.func30 #[.slice Ao11 t1454.length co11] ?_; (with_reducible refine (spec_LeavesOk.calls k _ _ t1454 false _ ?side1 ?side2 A6.out).mono ?_); (case side1 => repeat (first | exact (Kd.R_reads' HO1457.out).2.2 | (with_reducible refine Kd.C_alloc ?_ _) | (with_reducible refine Kd.C_drewN ?_ _) | (with_reducible refine Kd.C_drew ?_))); (case side2 => exact (Kd.R_reads' HO1457.out).2.1); rintro e w' ⟨rfl, ⟨nd, rfl⟩⟩; refine ⟨_, rfl, ?_⟩))
        go_meet
        case rel => exact ⟨_, (true), (by first | rfl | (simp; done) | (simp [*]; done)), H', ⟨by first | omega | exact Nat.le_refl _⟩, ⟨kdU_ HO1457.out⟩, ⟨bel_⟩⟩
    case rest =>
      clear HC4
      (try clear c2); (try clear c2b0); (try clear c2b1); (try clear c7); (try clear c8); (try clear c8b0)
      obtain ⟨kq, x34_3, rfl, HA, HJ3, HO_3, HB⟩ := hcut
      cases kq with
      | zero => exact absurd HA.out (by simp [laws_FnLifted.j0])
      | succ kj3 =>
        have H := HA.out
        clear HA
        simp only [laws_FnLifted.j0] at H
        by_cases c12 : x34_3 = true
        · subst c12
          rw [if_pos rfl] at H
          obtain rfl := Option.some.inj H
          go_wp2
          go_ret
          exact ⟨rfl_, bel_⟩
        · replace c12 := Bool.eq_false_iff.mpr c12
          subst c12
          rw [if_neg (show ¬ (false = true) by decide)] at H
          obtain ⟨t1459, A13, H⟩ := bnd_ H
          by_cases c14 : t1455 = 0
          · rw [if_pos c14] at H
            exact absurd H (by simp)
          · rw [if_neg c14] at H
            have c14b0 : (t1455 == 0) = false := beq_eq_false_iff_ne.mpr c14
            have c14b1 : (t1455 != 0) = true := bne_iff_ne.mpr c14
            by_cases c15 : 0 ≤ t1455
            · rw [if_pos c15] at H
              have c15b0 := eq_true c15
              have c15b1 : decide (0 ≤ t1455) = true := decide_eq_true c15
              clear c15
              by_cases c16 : t1455 ≤ (t1454.length : Int)
              · rw [if_pos c16] at H
                have c16b0 := eq_true c16
                have c16b1 : decide (t1455 ≤ (t1454.length : Int)) = true := decide_eq_true c16
                clear c16
                obtain ⟨y1460, hy1460⟩ : ∃ y_ : List ByteArray, y_ = (t1454.take (t1455 : Int).toNat) := ⟨_, rfl⟩
                replace H : ((impl_PathOf.f kj3 y1460 (Int.tmod (wrap64 (t1459)) t1455)).bind fun bt1464 => ((impl_GrowthOf.f kj3 t1454 t1455).bind fun bt1468 => ((impl_GrowthLift.f kj3 t1455 (t1454.length : Int) (Int.tmod (wrap64 (t1459)) t1455) bt1464.1 bt1468.1).bind fun bt1472 => ((spec_PathOf.f kj3 t1454 (Int.tmod (wrap64 (t1459)) t1455)).bind fun bt1476 => (if bt1464.2 = true then (if bt1468.2 = true then (if bt1472.2 = true then ((laws_sameDigests.f kj3 bt1472.1 bt1476.1).bind fun t1480 => (some t1480)) else (some false)) else (some false)) else (some false)))))) = some r := by first | (rw [hy1460]; with_reducible exact H) | (have H2_ := (Option.bind_some _ _).symm.trans H; rw [hy1460]; with_reducible exact H2_) | (have H2_ := (Option.bind_some _ _).symm.trans H; with_reducible exact H2_) | with_reducible exact H | (rw [hy1460]; exact H) | exact H
                have Ny1460 := Aside0.mk hy1460
                clear hy1460
                obtain ⟨⟨t1464, t1465⟩, A17, H⟩ := bnd_ H
                dsimp only at H
                obtain ⟨⟨t1468, t1469⟩, A18, H⟩ := bnd_ H
                dsimp only at H
                obtain ⟨⟨t1472, t1473⟩, A19, H⟩ := bnd_ H
                dsimp only at H
                obtain ⟨⟨t1476, t1477⟩, A20, H⟩ := bnd_ H
                dsimp only at H
                by_cases c21 : t1465 = true
                · subst c21
                  rw [if_pos rfl] at H
                  by_cases c22 : t1469 = true
                  · subst c22
                    rw [if_pos rfl] at H
                    by_cases c23 : t1473 = true
                    · subst c23
                      rw [if_pos rfl] at H
                      obtain ⟨t1480, A24, H⟩ := bnd_ H
                      obtain rfl := Option.some.inj H
                      go_wp2_with (first | ((with_reducible refine gate_callee (f := 36) rfl ?_); refine goL_ (some 36) Try.func36 #[.slice A0 l0.length c0, .int .i64 5] ?_; (with_reducible refine (laws_at.calls _ _ l0 5 t1459 _ ?side1 ?side2 A13.out).mono ?_); (case side1 => repeat (first | exact (Kd.C_below HR0.out HB.out) | (with_reducible refine Kd.C_alloc ?_ _) | (with_reducible refine Kd.C_drewN ?_ _) | (with_reducible refine Kd.C_drew ?_))); (case side2 => exact HC0.out); rintro e w' ⟨rfl, ⟨nd, rfl⟩⟩; refine ⟨_, rfl, ?_⟩; obtain ⟨Ao26, co26, eo26⟩ := Kd.R_slice HO_3.out; subst eo26; have q25 : (t1455 : Int) ≤ ((t1454.length : Int) : Int) := ofd_; obtain ⟨i025, hi025, _, hsz25, _⟩ := info_parts info9; have hroom25 : t1454.length ≤ co26 := (Kd.R_reads' HO_3.out).2.1; have hC25 : Kd.C Kd.string _ Ao26 t1454.length t1454 := (Kd.R_reads' HO_3.out).2.2; have hcut25 := cut_to (P := Try.prog) 61 9 .i64 Try.underlying61 hi025 Ao26 t1454.length co26 t1455 (ofd_) q25 hroom25; have hr25 := Kd.C_take (m := (t1455 : Int).toNat) hC25 (by omega); have hy25 : y1460.length = (t1455 : Int).toNat := (by rw [Ny1460.out, List.length_take]; omega); rw [← Ny1460.out] at hr25; rw [← hy25] at hcut25; have HR1463 := Aside0.mk hr25; have HC1463 := Aside0.mk (show y1460.length ≤ co26 from by omega); clear hr25 hC25 hroom25 hi025 hsz25; have KY25 := Aside0.mk hy25; clear hy25; have KL25 := Aside0.mk (show (t1455 : Int).toNat ≤ t1454.length from by omega); replace q25 := eq_true q25) | ((with_reducible refine gate_callee (f := 37) rfl ?_); refine goL_ (some 45) Try.func37 #[.slice Ao26 y1460.length co26, .int .i64 (Int.tmod (wrap64 (t1459)) t1455)] ?_; (with_reducible refine (impl_PathOf.calls kj3 _ _ y1460 (Int.tmod (wrap64 (t1459)) t1455) t1464 true _ ?side1 ?side2 A17.out).mono ?_); (case side1 => repeat (first | exact (by repeat (first | (with_reducible exact HR1463.out) | (with_reducible refine Kd.C_alloc ?_ _) | (with_reducible refine Kd.C_drewN ?_ _) | (with_reducible refine Kd.C_drew ?_) | exact HR1463.out)) | (with_reducible refine Kd.C_alloc ?_ _) | (with_reducible refine Kd.C_drewN ?_ _) | (with_reducible refine Kd.C_drew ?_))); (case side2 => exact HC1463.out); rintro e w27 ⟨v1466, rfl, ho0, hb⟩; refine ⟨_, rfl, ?_⟩; replace HO_3 := Aside0.mk (Kd.R_below (kdU_ HO_3.out) hb); have HO1467 := Aside0.mk (Kd.R_lower ho0 (below_size bel_)); replace HR1463 := Aside0.mk (Kd.C_below (by repeat (first | (with_reducible exact HR1463.out) | (with_reducible refine Kd.C_alloc ?_ _) | (with_reducible refine Kd.C_drewN ?_ _) | (with_reducible refine Kd.C_drew ?_) | exact HR1463.out)) hb); replace HB := stepB_ hb; (try clear hb); (try clear ho0)) | ((with_reducible refine gate_callee (f := 29) rfl ?_); refine goL_ (some 51) Try.func29 #[.slice Ao26 t1454.length co26, .int .i64 t1455] ?_; (with_reducible refine (impl_GrowthOf.calls kj3 _ _ t1454 t1455 t1468 true _ ?side1 ?side2 A18.out).mono ?_); (case side1 => repeat (first | exact (Kd.R_reads' HO_3.out).2.2 | (with_reducible refine Kd.C_alloc ?_ _) | (with_reducible refine Kd.C_drewN ?_ _) | (with_reducible refine Kd.C_drew ?_))); (case side2 => exact (Kd.R_reads' HO_3.out).2.1); rintro e w28 ⟨v1470, rfl, ho0, hb⟩; refine ⟨_, rfl, ?_⟩; replace HO_3 := Aside0.mk (Kd.R_below (kdU_ HO_3.out) hb); have HO1471 := Aside0.mk (Kd.R_lower (Kd.R_new' ho0 (Kd.R_lt (kdU_ HO1467.out))) (below_size bel_)); replace HO1467 := Aside0.mk (Kd.R_elder' (kdU_ HO1467.out) (Kd.R_base ho0) hb); replace HR1463 := Aside0.mk (Kd.C_below (by repeat (first | (with_reducible exact HR1463.out) | (with_reducible refine Kd.C_alloc ?_ _) | (with_reducible refine Kd.C_drewN ?_ _) | (with_reducible refine Kd.C_drew ?_) | exact HR1463.out)) hb); replace HB := stepB_ hb; (try clear hb); (try clear ho0); obtain ⟨Ao29, co29, eo29⟩ := Kd.R_slice HO1467.out; subst eo29; obtain ⟨Ao30, co30, eo30⟩ := Kd.R_slice HO1471.out; subst eo30) | ((with_reducible refine gate_callee (f := 38) rfl ?_); refine goL_ (some 61) Try.func38 #[.int .i64 t1455, .int .i64 (t1454.length : Int), .int .i64 (Int.tmod (wrap64 (t1459)) t1455), .slice Ao29 t1464.length co29, .slice Ao30 t1468.length co30] ?_; (with_reducible refine (impl_GrowthLift.calls kj3 t1455 (t1454.length : Int) (Int.tmod (wrap64 (t1459)) t1455) _ _ t1464 _ _ t1468 t1472 true _ ?side1 ?side2 ?side3 ?side4 A19.out).mono ?_); (case side1 => repeat (first | exact (Kd.R_reads' HO1467.out).2.2 | (with_reducible refine Kd.C_alloc ?_ _) | (with_reducible refine Kd.C_drewN ?_ _) | (with_reducible refine Kd.C_drew ?_))); (case side2 => exact (Kd.R_reads' HO1467.out).2.1); (case side3 => repeat (first | exact (Kd.R_reads' HO1471.out).2.2 | (with_reducible refine Kd.C_alloc ?_ _) | (with_reducible refine Kd.C_drewN ?_ _) | (with_reducible refine Kd.C_drew ?_))); (case side4 => exact (Kd.R_reads' HO1471.out).2.1); rintro e w31 ⟨v1474, rfl, ho0, hb⟩; refine ⟨_, rfl, ?_⟩; replace HO_3 := Aside0.mk (Kd.R_below (kdU_ HO_3.out) hb); have HO1475 := Aside0.mk (Kd.R_lower (Kd.R_new' (Kd.R_new' ho0 (Kd.R_lt (kdU_ HO1467.out))) (Kd.R_lt (kdU_ HO1471.out))) (below_size bel_)); replace HO1467 := Aside0.mk (Kd.R_elder' (kdU_ HO1467.out) (Kd.R_base ho0) hb); replace HO1471 := Aside0.mk (Kd.R_elder' (kdU_ HO1471.out) (Kd.R_base ho0) hb); replace HR1463 := Aside0.mk (Kd.C_below (by repeat (first | (with_reducible exact HR1463.out) | (with_reducible refine Kd.C_alloc ?_ _) | (with_reducible refine Kd.C_drewN ?_ _) | (with_reducible refine Kd.C_drew ?_) | exact HR1463.out)) hb); replace HB := stepB_ hb; (try clear hb); (try clear ho0)) | ((with_reducible refine gate_callee (f := 39) rfl ?_); refine goL_ (some 67) Try.func39 #[.slice Ao26 t1454.length co26, .int .i64 (Int.tmod (wrap64 (t1459)) t1455)] ?_; (with_reducible refine (spec_PathOf.calls kj3 _ _ t1454 (Int.tmod (wrap64 (t1459)) t1455) t1476 t1477 _ ?side1 ?side2 A20.out).mono ?_); (case side1 => repeat (first | exact (Kd.R_reads' HO_3.out).2.2 | (with_reducible refine Kd.C_alloc ?_ _) | (with_reducible refine Kd.C_drewN ?_ _) | (with_reducible refine Kd.C_drew ?_))); (case side2 => exact (Kd.R_reads' HO_3.out).2.1); rintro e w32 ⟨v1478, rfl, ho0, hb⟩; refine ⟨_, rfl, ?_⟩; replace HO_3 := Aside0.mk (Kd.R_below (kdU_ HO_3.out) hb); have HO1479 := Aside0.mk (Kd.R_lower (Kd.R_new' (Kd.R_new' (Kd.R_new' ho0 (Kd.R_lt (kdU_ HO1467.out))) (Kd.R_lt (kdU_ HO1471.out))) (Kd.R_lt (kdU_ HO1475.out))) (below_size bel_)); replace HO1467 := Aside0.mk (Kd.R_elder' (kdU_ HO1467.out) (Kd.R_base ho0) hb); replace HO1471 := Aside0.mk (Kd.R_elder' (kdU_ HO1471.out) (Kd.R_base ho0) hb); replace HO1475 := Aside0.mk (Kd.R_elder' (kdU_ HO1475.out) (Kd.R_base ho0) hb); replace HR1463 := Aside0.mk (Kd.C_below (by repeat (first | (with_reducible exact HR1463.out) | (with_reducible refine Kd.C_alloc ?_ _) | (with_reducible refine Kd.C_drewN ?_ _) | (with_reducible refine Kd.C_drew ?_) | exact HR1463.out)) hb); replace HB := stepB_ hb; (try clear hb); (try clear ho0); obtain ⟨Ao33, co33, eo33⟩ := Kd.R_slice HO1475.out; subst eo33; obtain ⟨Ao34, co34, eo34⟩ := Kd.R_slice HO1479.out; subst eo34) | (go_at_call 40; (with_reducible refine (laws_sameDigests.calls kj3 _ _ t1472 _ _ t1476 t1480 _ ?side1 ?side2 ?side3 ?side4 A24.out).mono ?_); (case side1 => repeat (first | exact (Kd.R_reads' HO1475.out).2.2 | (with_reducible refine Kd.C_alloc ?_ _) | (with_reducible refine Kd.C_drewN ?_ _) | (with_reducible refine Kd.C_drew ?_))); (case side2 => exact (Kd.R_reads' HO1475.out).2.1); (case side3 => repeat (first | exact (Kd.R_reads' HO1479.out).2.2 | (with_reducible refine Kd.C_alloc ?_ _) | (with_reducible refine Kd.C_drewN ?_ _) | (with_reducible refine Kd.C_drew ?_))); (case side4 => exact (Kd.R_reads' HO1479.out).2.1); rintro e w' ⟨rfl, ⟨nd, rfl⟩⟩))
                      go_ret
                      exact ⟨rfl_, bel_⟩
                    · replace c23 := Bool.eq_false_iff.mpr c23
                      subst c23
                      rw [if_neg (show ¬ (false = true) by decide)] at H
                      exact absurd ((Option.some.inj H).trans hr_) (by decide)
                  · replace c22 := Bool.eq_false_iff.mpr c22
                    subst c22
                    rw [if_neg (show ¬ (false = true) by decide)] at H
                    exact absurd ((Option.some.inj H).trans hr_) (by decide)
                · replace c21 := Bool.eq_false_iff.mpr c21
                  subst c21
                  rw [if_neg (show ¬ (false = true) by decide)] at H
                  exact absurd ((Option.some.inj H).trans hr_) (by decide)
              · rw [if_neg c16] at H
                exact absurd H (by simp)
            · rw [if_neg c15] at H
              exact absurd H (by simp)
end
end Go.Proofs.Ytflckegggopdnaa.B
