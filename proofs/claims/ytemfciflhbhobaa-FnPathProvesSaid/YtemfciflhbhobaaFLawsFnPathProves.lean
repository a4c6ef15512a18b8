/- What the Go functions loop.example/belfry/laws.FnPathProves do is what the Lean functions .f of their names here say; condition: .f gives an answer. (Written by the session's program pp.py over the kit's print; Lean checks it.) -/
import Derived.Test.YtemfciflhbhobaaK
import Derived.Test.YtemfciflhbhobaaM
import Derived.Test.YtemfciflhbhobaaFImplPathOf
import Derived.Test.YtemfciflhbhobaaFImplTreeRoot
import Derived.Test.YtemfciflhbhobaaFSpecDrawPathOf
import Derived.Test.YtemfciflhbhobaaFSpecTreeRoot
import Derived.Test.YtemfciflhbhobaaGCheck1
import Derived.Test.YtemfciflhbhobaaGEq1
import Derived.Test.YtemfciflhbhobaaGPoint1
import Derived.Test.YtemfciflhbhobaaGTree1
import Derived.Test.YtemfciflhbhobaaGUp2
import Derived.Test.YtemfciflhbhobaaGWay1
namespace Go.Proofs.Ytemfciflhbhobaa.B
open Go.RowKit Go.Proofs.YtemfciflhbhobaaW.PrintWords Go.Proofs.YtemfciflhbhobaaW.PrintLast Go.Proofs.YtemfciflhbhobaaW.PrintMore
attribute [local go_sem] max2_int min2_int max_two min_two max_three min_three max_four min_four   -- for this text's walks alone
set_option linter.unusedVariables false
set_option linter.unusedSimpArgs false

section
attribute [local go_sem high] eqA29
/-! ### laws_FnPathProves: function 19 -/
mutual
def laws_FnPathProves.j0 : Nat → List ByteArray → Int → List (S29) → Bool → Bool → Option (Bool)
  | 0, _, _, _, _, _ => none
  | k + 1, x3, x4, x5, x6, x35 => if x35 = true then (if x6 = true then (some false) else (some ((x5.length : Int) == 0))) else (if x6 = true then ((impl_PathLen.f k (x3.length : Int) x4).bind fun t1767 => (if (x5.length : Int) = t1767 then ((spec_PathLen.f k (x3.length : Int) x4).bind fun t1768 => (laws_FnPathProves.j1 k x3 x4 x5 ((x5.length : Int) != t1768))) else (laws_FnPathProves.j1 k x3 x4 x5 true))) else (laws_FnPathProves.j1 k x3 x4 x5 true))
def laws_FnPathProves.j1 : Nat → List ByteArray → Int → List (S29) → Bool → Option (Bool)
  | 0, _, _, _, _ => none
  | k + 1, x3, x4, x5, x62 => if x62 = true then (some false) else (if 0 ≤ x4 then (if x4 < (x3.length : Int) then ((impl_PathRoot.f k (x3.length : Int) x4 (rdOf ByteArray.empty x3 x4) x5).bind fun bt1770 => (if bt1770.2.2.2.2 = true then ((impl_TreeRoot.f k x3).bind fun bt1776 => (if (bt1770.1 == bt1776.1 && (bt1770.2.1 == bt1776.2.1 && (bt1770.2.2.1 == bt1776.2.2.1 && (bt1770.2.2.2.1 == bt1776.2.2.2)))) = true then ((spec_TreeRoot.f k x3).bind fun bt1780 => (if (bt1770.1 == bt1780.1 && (bt1770.2.1 == bt1780.2.1 && (bt1770.2.2.1 == bt1780.2.2.1 && (bt1770.2.2.2.1 == bt1780.2.2.2)))) = true then ((impl_TreePoint.f k x3).bind fun bt1784 => ((impl_PathCheck.f k bt1784.1 bt1784.2.1 bt1784.2.2.1 bt1784.2.2.2.1 bt1784.2.2.2.2 x4 (rdOf ByteArray.empty x3 x4) x5).bind fun t1790 => (some t1790))) else (some false))) else (some false))) else (some false))) else (none)) else (none))
end
def laws_FnPathProves.f (k : Nat) (l0 : List Int) : Option (Bool) := if (l0.length : Int) > 1048576 then (some true) else ((spec_DrawPathOf.f k l0).bind fun bt1758 => ((impl_PathOf.f k bt1758.1 bt1758.2).bind fun bt1762 => ((spec_LeavesOk.f k bt1758.1).bind fun t1766 => (if t1766 = true then (if bt1758.2 < 0 then (laws_FnPathProves.j0 k bt1758.1 bt1758.2 bt1762.1 bt1762.2 true) else (laws_FnPathProves.j0 k bt1758.1 bt1758.2 bt1762.1 bt1762.2 (decide (bt1758.2 ≥ (bt1758.1.length : Int))))) else (laws_FnPathProves.j0 k bt1758.1 bt1758.2 bt1762.1 bt1762.2 true)))))
theorem laws_FnPathProves.mono_l : ∀ k, (∀ y0 y1 y2 y3 y4, LeO (laws_FnPathProves.j0 k y0 y1 y2 y3 y4) (laws_FnPathProves.j0 (k + 1) y0 y1 y2 y3 y4)) ∧ (∀ y0 y1 y2 y3, LeO (laws_FnPathProves.j1 k y0 y1 y2 y3) (laws_FnPathProves.j1 (k + 1) y0 y1 y2 y3))
  | 0 => ⟨fun _ _ _ _ _ r h => by simp [laws_FnPathProves.j0] at h, fun _ _ _ _ r h => by simp [laws_FnPathProves.j1] at h⟩
  | k + 1 => by
    obtain ⟨ih0, ih1⟩ := laws_FnPathProves.mono_l k
    refine ⟨?_, ?_⟩
    · intro y0 y1 y2 y3 y4
      unfold laws_FnPathProves.j0
      repeat' first | (with_reducible first | exact ih0 _ _ _ _ _ | exact ih1 _ _ _ _ | exact impl_PathCheck.mono _ _ _ _ _ _ _ _ _ | exact impl_PathLen.mono _ _ _ | exact impl_PathOf.mono _ _ _ | exact impl_PathRoot.mono _ _ _ _ _ | exact impl_TreePoint.mono _ _ | exact impl_TreeRoot.mono _ _ | exact spec_DrawPathOf.mono _ _ | exact spec_LeavesOk.mono _ _ | exact spec_PathLen.mono _ _ _ | exact spec_TreeRoot.mono _ _ | exact LeO.refl _ | exact LeO.none _ | refine LeO.ite ?_ ?_ | refine LeO.bind ?_ (fun _ => ?_)) | exact ih0 _ _ _ _ _ | exact ih1 _ _ _ _ | exact LeO.none _ | refine LeO.ite ?_ ?_ | refine LeO.bind ?_ (fun _ => ?_)
    · intro y0 y1 y2 y3
      unfold laws_FnPathProves.j1
      repeat' first | (with_reducible first | exact ih0 _ _ _ _ _ | exact ih1 _ _ _ _ | exact impl_PathCheck.mono _ _ _ _ _ _ _ _ _ | exact impl_PathLen.mono _ _ _ | exact impl_PathOf.mono _ _ _ | exact impl_PathRoot.mono _ _ _ _ _ | exact impl_TreePoint.mono _ _ | exact impl_TreeRoot.mono _ _ | exact spec_DrawPathOf.mono _ _ | exact spec_LeavesOk.mono _ _ | exact spec_PathLen.mono _ _ _ | exact spec_TreeRoot.mono _ _ | exact LeO.refl _ | exact LeO.none _ | refine LeO.ite ?_ ?_ | refine LeO.bind ?_ (fun _ => ?_)) | exact ih0 _ _ _ _ _ | exact ih1 _ _ _ _ | exact LeO.none _ | refine LeO.ite ?_ ?_ | refine LeO.bind ?_ (fun _ => ?_)
theorem laws_FnPathProves.mono : ∀ a0 k, LeO (laws_FnPathProves.f k a0) (laws_FnPathProves.f (k + 1) a0) := by
  intro a0 k
  obtain ⟨ih0, ih1⟩ := laws_FnPathProves.mono_l k
  unfold laws_FnPathProves.f
  repeat' first | (with_reducible first | exact ih0 _ _ _ _ _ | exact ih1 _ _ _ _ | exact impl_PathCheck.mono _ _ _ _ _ _ _ _ _ | exact impl_PathLen.mono _ _ _ | exact impl_PathOf.mono _ _ _ | exact impl_PathRoot.mono _ _ _ _ _ | exact impl_TreePoint.mono _ _ | exact impl_TreeRoot.mono _ _ | exact spec_DrawPathOf.mono _ _ | exact spec_LeavesOk.mono _ _ | exact spec_PathLen.mono _ _ _ | exact spec_TreeRoot.mono _ _ | exact LeO.refl _ | exact LeO.none _ | refine LeO.ite ?_ ?_ | refine LeO.bind ?_ (fun _ => ?_)) | exact ih0 _ _ _ _ _ | exact ih1 _ _ _ _ | exact LeO.none _ | refine LeO.ite ?_ ?_ | refine LeO.bind ?_ (fun _ => ?_)
def laws_FnPathProves.T10 : Bool × List (List Nat × List Nat) := (true, [([], []), ([0], [0]), ([1], [1]), ([1], [1]), ([3, 1, 1], [1, 3]), ([2, 4, 1], [1, 2, 4]), ([1, 5], [1, 5]), ([6, 4], [6]), ([7], [7]), ([7], [7]), ([9, 7, 7], [7, 9]), ([8, 10, 7], [7, 8, 10]), ([7, 11], [7, 11]), ([12, 10], [12]), ([13], [13]), ([14, 13, 13], [13, 14]), ([13], [13]), ([13], [13]), ([13], [13]), ([17, 18, 13], [13, 17, 18]), ([19, 13], [13, 19]), ([13], [13]), ([15, 16, 20, 21, 15, 13], [13, 15, 16, 20, 21]), ([13, 22], [13, 22]), ([23, 22, 0, 1, 2, 3, 4, 5, 6, 7, 8, 9, 10, 11, 12, 13, 14, 15, 16, 17, 18, 19, 20, 21, 22, 23], [23])])
def laws_FnPathProves.B10 : List Nat := [0, 1, 3, 3, 11, 31, 63, 127, 255, 255, 767, 2047, 4095, 8191, 16383, 32767, 16383, 16383, 16383, 409599, 933887, 16383, 4194303, 8388607, 16777215]
theorem laws_FnPathProves.tab10 : rtab .any (opsOf Try.f19 10) = laws_FnPathProves.T10 := by kernel_rfl
theorem laws_FnPathProves.bits10 : waitsOk laws_FnPathProves.T10.2 laws_FnPathProves.B10 = true := by kernel_rfl
set_option maxHeartbeats 8000000 in
set_option maxRecDepth 100000 in
theorem laws_FnPathProves.calls (k : Nat) (A0 : Option Addr) (c0 : Nat) (l0 : List Int) (r : Bool) (hr_ : r = true) (w : World) (hr0 : Kd.C (Kd.int .u8) w A0 l0.length l0) (hc0 : l0.length ≤ c0) (h : laws_FnPathProves.f k l0 = some r) :
    Calls Try.prog 19 #[.slice A0 l0.length c0] w fun e w' => e = .returned (.bool r) ∧ Below w.heap.size w w' := by
  have hu29 := Try.underlying29
  have HR0 := Aside0.mk hr0
  have HC0 := Aside0.mk hc0
  clear hr0 hc0
  have HB := Aside0.mk (Below.refl w.heap.size w)
  have H : (if (l0.length : Int) > 1048576 then (some true) else ((spec_DrawPathOf.f k l0).bind fun bt1758 => ((impl_PathOf.f k bt1758.1 bt1758.2).bind fun bt1762 => ((spec_LeavesOk.f k bt1758.1).bind fun t1766 => (if t1766 = true then (if bt1758.2 < 0 then (laws_FnPathProves.j0 k bt1758.1 bt1758.2 bt1762.1 bt1762.2 true) else (laws_FnPathProves.j0 k bt1758.1 bt1758.2 bt1762.1 bt1762.2 (decide (bt1758.2 ≥ (bt1758.1.length : Int))))) else (laws_FnPathProves.j0 k bt1758.1 bt1758.2 bt1762.1 bt1762.2 true)))))) = some r := h
  clear h
  by_cases c2 : (l0.length : Int) > 1048576
  · rw [if_pos c2] at H
    have c2b0 : decide (1048576 < (l0.length : Int)) = true := decide_eq_true c2
    have c2b1 : decide (1048576 < l0.length) = true := decide_eq_true (by omega)
    clear c2
    obtain rfl := Option.some.inj H
    go_enter Try.func19, Try.ntmps19
    go_wp2
    go_ret
    exact ⟨rfl_, bel_⟩
  · rw [if_neg c2] at H
    have c2b0 : decide (1048576 < (l0.length : Int)) = false := decide_eq_false c2
    have c2b1 : decide (1048576 < l0.length) = false := decide_eq_false (by omega)
    clear c2
    obtain ⟨⟨t1758, t1759⟩, A3, H⟩ := bnd_ H
    dsimp only at H
    obtain ⟨⟨t1762, t1763⟩, A4, H⟩ := bnd_ H
    dsimp only at H
    have HC5 := Aside0.mk H
    clear H
    go_enter Try.func19, Try.ntmps19
    go_upto_region 5 with (first | ((with_reducible refine gate_callee (f := 83) rfl ?_); refine goL_ (some 14) Try.func83 #[.slice A0 l0.length c0] ?_; (with_reducible refine (spec_DrawPathOf.calls k _ _ l0 t1758 t1759 _ ?side1 ?side2 A3.out).mono ?_); (case side1 => repeat (first | exact HR0.out | (with_reducible refine Kd.C_alloc ?_ _) | (with_reducible refine Kd.C_drewN ?_ _) | (with_reducible refine Kd.C_drew ?_))); (case side2 => exact HC0.out); rintro e w6 ⟨v1760, rfl, ho0, hb⟩; refine ⟨_, rfl, ?_⟩; have HO1761 := Aside0.mk (Kd.R_lower ho0 (below_size bel_)); replace HB := stepB_ hb; (try clear hb); (try clear ho0); obtain ⟨Ao7, co7, eo7⟩ := Kd.R_slice HO1761.out; subst eo7) | ((with_reducible refine gate_callee (f := 70) rfl ?_); refine goL_ (some 20) Try.func70 #[.slice Ao7 t1758.length co7, .int .i64 t1759] ?_; (with_reducible refine (impl_PathOf.calls k _ _ t1758 t1759 t1762 t1763 _ ?side1 ?side2 A4.out).mono ?_); (case side1 => repeat (first | exact (Kd.R_reads' HO1761.out).2.2 | (with_reducible refine Kd.C_alloc ?_ _) | (with_reducible refine Kd.C_drewN ?_ _) | (with_reducible refine Kd.C_drew ?_))); (case side2 => exact (Kd.R_reads' HO1761.out).2.1); rintro e w8 ⟨v1764, rfl, ho0, hb⟩; refine ⟨_, rfl, ?_⟩; replace HO1761 := Aside0.mk (Kd.R_below (kdU_ HO1761.out) hb); have HO1765 := Aside0.mk (Kd.R_lower ho0 (below_size bel_)); replace HB := stepB_ hb; (try clear hb); (try clear ho0)))
    (try simp only [Act.put, List.setIfInBounds_toArray, List.set_cons_zero, List.set_cons_succ])
    go_cut [35] (fun v35 wc => ∃ (kq : Nat) (x35_4 : Bool), v35 = .bool x35_4 ∧ Aside0 (laws_FnPathProves.j0 kq t1758 t1759 t1762 t1763 x35_4 = some r) ∧ Aside0 (kq ≤ k) ∧ Aside0 (Kd.R Kd.string 9 wc w.heap.size (fun _ => True) (.slice Ao7 t1758.length co7) t1758) ∧ Aside0 (Kd.R k29 29 wc w.heap.size (fun _ => True) v1764 t1762) ∧ Aside0 (Below w.heap.size w wc))
    case first =>
      have H := HC5.out
      clear HC5
      obtain ⟨t1766, A9, H⟩ := bnd_ H
      by_cases c10 : t1766 = true
      · subst c10
        rw [if_pos rfl] at H
        by_cases c11 : t1759 < 0
        · rw [if_pos c11] at H
          have c11b0 : decide (t1759 < 0) = true := decide_eq_true c11
          clear c11
          (first | rw [c11b0] | (simp only [i64_w, i32_w]; rw [c11b0]) | skip)
          have H' := Aside0.mk H
          clear H
          go_wp2_with (first | ((with_reducible refine gate_callee (f := 53) rfl ?_); refine goL_ (some 24) Try.func53 #[.slice Ao7 t1758.length co7] ?_; (with_reducible refine (spec_LeavesOk.calls k _ _ t1758 true _ ?side1 ?side2 A9.out).mono ?_); (case side1 => repeat (first | exact (Kd.R_reads' HO1761.out).2.2 | (with_reducible refine Kd.C_alloc ?_ _) | (with_reducible refine Kd.C_drewN ?_ _) | (with_reducible refine Kd.C_drew ?_))); (case side2 => exact (Kd.R_reads' HO1761.out).2.1); rintro e w' ⟨rfl, ⟨nd, rfl⟩⟩; refine ⟨_, rfl, ?_⟩))
          go_meet
          case rel => exact ⟨_, (true), (by first | rfl | (simp; done) | (simp [*]; done)), H', ⟨by first | omega | exact Nat.le_refl _⟩, ⟨kdU_ HO1761.out⟩, ⟨kdU_ HO1765.out⟩, ⟨bel_⟩⟩
        · rw [if_neg c11] at H
          have c11b0 : decide (t1759 < 0) = false := decide_eq_false c11
          clear c11
          (first | rw [c11b0] | (simp only [i64_w, i32_w]; rw [c11b0]) | skip)
          have H' := Aside0.mk H
          clear H
          go_wp2_with (first | ((with_reducible refine gate_callee (f := 53) rfl ?_); refine goL_ (some 24) Try.func53 #[.slice Ao7 t1758.length co7] ?_; (with_reducible refine (spec_LeavesOk.calls k _ _ t1758 true _ ?side1 ?side2 A9.out).mono ?_); (case side1 => repeat (first | exact (Kd.R_reads' HO1761.out).2.2 | (with_reducible refine Kd.C_alloc ?_ _) | (with_reducible refine Kd.C_drewN ?_ _) | (with_reducible refine Kd.C_drew ?_))); (case side2 => exact (Kd.R_reads' HO1761.out).2.1); rintro e w' ⟨rfl, ⟨nd, rfl⟩⟩; refine ⟨_, rfl, ?_⟩))
          go_meet
          case rel => exact ⟨_, (decide (t1759 ≥ (t1758.length : Int))), (by first | rfl | (simp; done) | (simp [*]; done)), H', ⟨by first | omega | exact Nat.le_refl _⟩, ⟨kdU_ HO1761.out⟩, ⟨kdU_ HO1765.out⟩, ⟨bel_⟩⟩
      · replace c10 := Bool.eq_false_iff.mpr c10
        subst c10
        rw [if_neg (show ¬ (false = true) by decide)] at H
        have H' := Aside0.mk H
        clear H
        go_wp2_with (first | ((with_reducible refine gate_callee (f := 53) rfl ?_); refine goL_ (some 24) Try.func53 #[.slice Ao7 t1758.length co7] ?_; (with_reducible refine (spec_LeavesOk.calls k _ _ t1758 false _ ?side1 ?side2 A9.out).mono ?_); (case side1 => repeat (first | exact (Kd.R_reads' HO1761.out).2.2 | (with_reducible refine Kd.C_alloc ?_ _) | (with_reducible refine Kd.C_drewN ?_ _) | (with_reducible refine Kd.C_drew ?_))); (case side2 => exact (Kd.R_reads' HO1761.out).2.1); rintro e w' ⟨rfl, ⟨nd, rfl⟩⟩; refine ⟨_, rfl, ?_⟩))
        go_meet
        case rel => exact ⟨_, (true), (by first | rfl | (simp; done) | (simp [*]; done)), H', ⟨by first | omega | exact Nat.le_refl _⟩, ⟨kdU_ HO1761.out⟩, ⟨kdU_ HO1765.out⟩, ⟨bel_⟩⟩
    case rest =>
      clear HC5
      (try clear c2); (try clear c2b0); (try clear c2b1); (try clear c10); (try clear c11); (try clear c11b0)
      obtain ⟨kq, x35_4, rfl, HA, HJ4, HO_3, HO_5, HB⟩ := hcut
      cases kq with
      | zero => exact absurd HA.out (by simp [laws_FnPathProves.j0])
      | succ kj4 =>
        have H := HA.out
        clear HA
        simp only [laws_FnPathProves.j0] at H
        by_cases c12 : x35_4 = true
        · subst c12
          rw [if_pos rfl] at H
          by_cases c13 : t1763 = true
          · subst c13
            rw [if_pos rfl] at H
            exact absurd ((Option.some.inj H).trans hr_) (by decide)
          · replace c13 := Bool.eq_false_iff.mpr c13
            subst c13
            rw [if_neg (show ¬ (false = true) by decide)] at H
            obtain rfl := Option.some.inj H
            obtain ⟨Ao14, co14, eo14⟩ := Kd.R_slice HO_5.out
            subst eo14
            go_wp2
            go_ret
            exact ⟨rfl_, bel_⟩
        · replace c12 := Bool.eq_false_iff.mpr c12
          subst c12
          rw [if_neg (show ¬ (false = true) by decide)] at H
          have HC15 := Aside0.mk H
          clear H
          go_upto_region 7 with (fail)
          go_cut [62] (fun v62 wc => ∃ (kq : Nat) (x62_14 : Bool), v62 = .bool x62_14 ∧ Aside0 (laws_FnPathProves.j1 kq t1758 t1759 t1762 x62_14 = some r) ∧ Aside0 (kq ≤ kj4) ∧ Aside0 (Kd.R Kd.string 9 wc w.heap.size (fun _ => True) (.slice Ao7 t1758.length co7) t1758) ∧ Aside0 (Kd.R k29 29 wc w.heap.size (fun _ => True) v1764 t1762) ∧ Aside0 (Below w.heap.size w wc))
          case first =>
            have H := HC15.out
            clear HC15
            by_cases c16 : t1763 = true
            · subst c16
              rw [if_pos rfl] at H
              obtain ⟨t1767, A17, H⟩ := bnd_ H
              by_cases c18 : (t1762.length : Int) = t1767
              · rw [if_pos c18] at H
                have c18b0 : ((t1762.length : Int) == t1767) = true := beq_iff_eq.mpr c18
                have c18b1 : ((t1762.length : Int) != t1767) = false := bne_eq_false_iff_eq.mpr c18
                clear c18
                (first | rw [c18b0] | (simp only [i64_w, i32_w]; rw [c18b0]) | skip)
                obtain ⟨t1768, A19, H⟩ := bnd_ H
                have H' := Aside0.mk H
                clear H
                obtain ⟨Ao20, co20, eo20⟩ := Kd.R_slice HO_5.out
                subst eo20
                go_wp2_with (first | (go_at_call 84; (with_reducible refine (impl_PathLen.calls kj4 (t1758.length : Int) t1759 t1767 _ A17.out).mono ?_); rintro e w21 ⟨rfl, hb⟩; replace HO_3 := Aside0.mk (Kd.R_below (kdU_ HO_3.out) hb); replace HO_5 := Aside0.mk (Kd.R_below (kdU_ HO_5.out) hb); replace HB := stepB_ hb; (try clear hb)) | (go_at_call 85; (with_reducible refine (spec_PathLen.calls kj4 (t1758.length : Int) t1759 t1768 _ A19.out).mono ?_); rintro e w' ⟨rfl, ⟨nd, rfl⟩⟩))
                go_meet
                case rel => exact ⟨_, (((t1762.length : Int) != t1768)), (by first | rfl | (simp; done) | (simp [*]; done)), H', ⟨by have := HJ4.out; first | omega | exact Nat.le_refl _⟩, ⟨kdU_ HO_3.out⟩, ⟨kdU_ HO_5.out⟩, ⟨bel_⟩⟩
              · rw [if_neg c18] at H
                have c18b0 : ((t1762.length : Int) == t1767) = false := beq_eq_false_iff_ne.mpr c18
                have c18b1 : ((t1762.length : Int) != t1767) = true := bne_iff_ne.mpr c18
                (first | rw [c18b0] | (simp only [i64_w, i32_w]; rw [c18b0]) | skip)
                have H' := Aside0.mk H
                clear H
                obtain ⟨Ao22, co22, eo22⟩ := Kd.R_slice HO_5.out
                subst eo22
                go_wp2_with (first | (go_at_call 84; (with_reducible refine (impl_PathLen.calls kj4 (t1758.length : Int) t1759 t1767 _ A17.out).mono ?_); rintro e w23 ⟨rfl, hb⟩; replace HO_3 := Aside0.mk (Kd.R_below (kdU_ HO_3.out) hb); replace HO_5 := Aside0.mk (Kd.R_below (kdU_ HO_5.out) hb); replace HB := stepB_ hb; (try clear hb)))
                go_meet
                case rel => exact ⟨_, (true), (by first | rfl | (simp; done) | (simp [*]; done)), H', ⟨by have := HJ4.out; first | omega | exact Nat.le_refl _⟩, ⟨kdU_ HO_3.out⟩, ⟨kdU_ HO_5.out⟩, ⟨bel_⟩⟩
            · replace c16 := Bool.eq_false_iff.mpr c16
              subst c16
              rw [if_neg (show ¬ (false = true) by decide)] at H
              have H' := Aside0.mk H
              clear H
              go_wp2
              go_meet
              case rel => exact ⟨_, (true), (by first | rfl | (simp; done) | (simp [*]; done)), H', ⟨by have := HJ4.out; first | omega | exact Nat.le_refl _⟩, ⟨kdU_ HO_3.out⟩, ⟨kdU_ HO_5.out⟩, ⟨bel_⟩⟩
          case rest =>
            clear HC15
            (try clear c2); (try clear c2b0); (try clear c2b1); (try clear c10); (try clear c11); (try clear c11b0); (try clear c12); (try clear c13); (try clear c16); (try clear c18); (try clear c18b0); (try clear c18b1)
            obtain ⟨kq, x62_14, rfl, HA, HJ14, HO_3, HO_5, HB⟩ := hcut
            cases kq with
            | zero => exact absurd HA.out (by simp [laws_FnPathProves.j1])
            | succ kj14 =>
              have H := HA.out
              clear HA
              simp only [laws_FnPathProves.j1] at H
              by_cases c24 : x62_14 = true
              · subst c24
                rw [if_pos rfl] at H
                exact absurd ((Option.some.inj H).trans hr_) (by decide)
              · replace c24 := Bool.eq_false_iff.mpr c24
                subst c24
                rw [if_neg (show ¬ (false = true) by decide)] at H
                by_cases c25 : 0 ≤ t1759
                · rw [if_pos c25] at H
                  have c25b0 : decide (0 ≤ t1759) = true := decide_eq_true c25
                  clear c25
                  by_cases c26 : t1759 < (t1758.length : Int)
                  · rw [if_pos c26] at H
                    have c26b0 : decide (t1759 < (t1758.length : Int)) = true := decide_eq_true c26
                    clear c26
                    obtain ⟨⟨t1770, t1771, t1772, t1773, t1774⟩, A27, H⟩ := bnd_ H
                    dsimp only at H
                    by_cases c28 : t1774 = true
                    · subst c28
                      rw [if_pos rfl] at H
                      obtain ⟨⟨t1776, t1777, t1778, t1779⟩, A29, H⟩ := bnd_ H
                      dsimp only at H
                      by_cases c30 : (t1770 == t1776 && (t1771 == t1777 && (t1772 == t1778 && (t1773 == t1779)))) = true
                      · rw [if_pos c30] at H
                        have c30b0 : (t1770 == t1776 && (t1771 == t1777 && (t1772 == t1778 && (t1773 == t1779)))) = true := c30
                        (try (have c30b1 : decide (t1770 = t1776 && (t1771 == t1777 && (t1772 == t1778 && (t1773 == t1779)))) = true := by simpa using c30))
                        (try (have c30b2 : (t1770 == t1776 && (t1771 == t1777 && (t1772 == t1778 && (t1773 == t1779)))) = true := by simpa using c30))
                        clear c30
                        obtain ⟨⟨t1780, t1781, t1782, t1783⟩, A31, H⟩ := bnd_ H
                        dsimp only at H
                        by_cases c32 : (t1770 == t1780 && (t1771 == t1781 && (t1772 == t1782 && (t1773 == t1783)))) = true
                        · rw [if_pos c32] at H
                          have c32b0 : (t1770 == t1780 && (t1771 == t1781 && (t1772 == t1782 && (t1773 == t1783)))) = true := c32
                          (try (have c32b1 : decide (t1770 = t1780 && (t1771 == t1781 && (t1772 == t1782 && (t1773 == t1783)))) = true := by simpa using c32))
                          (try (have c32b2 : (t1770 == t1780 && (t1771 == t1781 && (t1772 == t1782 && (t1773 == t1783)))) = true := by simpa using c32))
                          clear c32
                          obtain ⟨⟨t1784, t1785, t1786, t1787, t1788⟩, A33, H⟩ := bnd_ H
                          dsimp only at H
                          obtain ⟨t1790, A34, H⟩ := bnd_ H
                          obtain rfl := Option.some.inj H
                          have p1769 : 0 ≤ (t1759 : Int) := ofd_
                          have q1769 : t1759 < (t1758.length : Int) := ofd_
                          obtain ⟨ad1769, e1769, hx1769_0⟩ := Kd.at_string (Kd.R_reads' HO_3.out).2.2 t1759 p1769 q1769
                          cases e1769
                          replace p1769 := eq_true p1769
                          replace q1769 := eq_true q1769
                          obtain ⟨Ao35, co35, eo35⟩ := Kd.R_slice HO_5.out
                          subst eo35
                          try go_wp2_with (first | ((with_reducible refine gate_callee (f := 51) rfl ?_); refine goL_ (some 72) Try.func51 #[.int .i64 (t1758.length : Int), .int .i64 t1759, .string (rdOf ByteArray.empty t1758 t1759), .slice Ao35 t1762.length co35] ?_; (with_reducible refine (impl_PathRoot.calls kj14 (t1758.length : Int) t1759 (rdOf ByteArray.empty t1758 t1759) _ _ t1762 t1770 t1771 t1772 t1773 true _ ?side1 ?side2 A27.out).mono ?_); (case side1 => repeat (first | exact (Kd.R_reads' HO_5.out).2.2 | (with_reducible refine Kd.C_alloc ?_ _) | (with_reducible refine Kd.C_drewN ?_ _) | (with_reducible refine Kd.C_drew ?_))); (case side2 => exact (Kd.R_reads' HO_5.out).2.1); rintro e w36 ⟨rfl, hb⟩; refine ⟨_, rfl, ?_⟩; replace HO_3 := Aside0.mk (Kd.R_below (kdU_ HO_3.out) hb); replace HO_5 := Aside0.mk (Kd.R_below (kdU_ HO_5.out) hb); replace HB := stepB_ hb; (try clear hb)) | ((with_reducible refine gate_dst (N := 7) rfl ?_); (try (refine gate_guard (by rfl) ?_; dsimp only)); refine boxE_ (cs := #[.int .u64 0, .int .u64 0, .int .u64 0, .int .u64 0]) (t := 29) ?_; intro gb1775 hg w37 hbox hb; replace HO_3 := Aside0.mk (Kd.R_below (kdU_ HO_3.out) hb); replace HO_5 := Aside0.mk (Kd.R_below (Kd.R_elderB (kdU_ HO_5.out) gb1775 (Nat.le_of_eq hg.symm)) hb); have BK1775 := Aside0.mk (hbox); have GW1775 := sizeB_ hg; have GE1775 := sizeB_ hg; replace HB := stepB_ hb; clear hb hbox hg; obtain ⟨hcz38_0, hcz38_1, hcz38_2, hcz38_3, hfz38_0, hfz38_1, hfz38_2, hfz38_3⟩ := cz4_ BK1775.out))
                          have n0_ : Aside0 (Kd.R Kd.string 9 ((((w37.setCell ⟨gb1775, 0, none⟩ (.int .u64 t1770)).setCell ⟨gb1775, 1, none⟩ (.int .u64 t1771)).setCell ⟨gb1775, 2, none⟩ (.int .u64 t1772)).setCell ⟨gb1775, 3, none⟩ (.int .u64 t1773)) w.heap.size (fun _ => True) (.slice (some ad1769) t1758.length co7) t1758) := ⟨by (with_reducible repeat (first | apply Kd.R_alloc | apply Kd.R_drewN | apply Kd.R_drew)); exact Kd.R_mono (Kd.R_far (p := ⟨gb1775, 3, none⟩) (Kd.R_far (p := ⟨gb1775, 2, none⟩) (Kd.R_far (p := ⟨gb1775, 1, none⟩) (Kd.R_far (p := ⟨gb1775, 0, none⟩) (Kd.R_types HO_3.out BK1775.out (by decide)) (fun _ hk => hk.2) (.int .u64 t1770)) (fun _ hk => hk.2) (.int .u64 t1771)) (fun _ hk => hk.2) (.int .u64 t1772)) (fun _ hk => hk.2) (.int .u64 t1773)) (fun _ hk => trivial)⟩
                          have n1_ : Aside0 (Kd.R k29 29 ((((w37.setCell ⟨gb1775, 0, none⟩ (.int .u64 t1770)).setCell ⟨gb1775, 1, none⟩ (.int .u64 t1771)).setCell ⟨gb1775, 2, none⟩ (.int .u64 t1772)).setCell ⟨gb1775, 3, none⟩ (.int .u64 t1773)) w.heap.size (fun k_ => k_ ≠ gb1775) (.slice Ao35 t1762.length co35) t1762) := ⟨by (with_reducible repeat (first | apply Kd.R_alloc | apply Kd.R_drewN | apply Kd.R_drew)); exact Kd.R_mono (Kd.R_far (p := ⟨gb1775, 3, none⟩) (Kd.R_far (p := ⟨gb1775, 2, none⟩) (Kd.R_far (p := ⟨gb1775, 1, none⟩) (Kd.R_far (p := ⟨gb1775, 0, none⟩) (Kd.R_mono HO_5.out (fun k_ hk => (⟨hk, hk.2⟩ : _ ∧ k_ ≠ gb1775))) (fun _ hk => hk.2) (.int .u64 t1770)) (fun _ hk => hk.2) (.int .u64 t1771)) (fun _ hk => hk.2) (.int .u64 t1772)) (fun _ hk => hk.2) (.int .u64 t1773)) (fun _ hk => hk.1.2)⟩
                          have n2_ : Aside0 (((((w37.setCell ⟨gb1775, 0, none⟩ (.int .u64 t1770)).setCell ⟨gb1775, 1, none⟩ (.int .u64 t1771)).setCell ⟨gb1775, 2, none⟩ (.int .u64 t1772)).setCell ⟨gb1775, 3, none⟩ (.int .u64 t1773)).heap[gb1775]? = some (.cells #[.int .u64 t1770, .int .u64 t1771, .int .u64 t1772, .int .u64 t1773] 29 (0, 0))) := ⟨blkF_ BK1775.out⟩
                          have n3_ : Aside0 (Below w.heap.size w ((((w37.setCell ⟨gb1775, 0, none⟩ (.int .u64 t1770)).setCell ⟨gb1775, 1, none⟩ (.int .u64 t1771)).setCell ⟨gb1775, 2, none⟩ (.int .u64 t1772)).setCell ⟨gb1775, 3, none⟩ (.int .u64 t1773))) := ⟨bel_⟩
                          (try clear HO_3); (try clear HO_5); (try clear BK1775); (try clear HB)
                          generalize ((((w37.setCell ⟨gb1775, 0, none⟩ (.int .u64 t1770)).setCell ⟨gb1775, 1, none⟩ (.int .u64 t1771)).setCell ⟨gb1775, 2, none⟩ (.int .u64 t1772)).setCell ⟨gb1775, 3, none⟩ (.int .u64 t1773)) = w39 at n0_ n1_ n2_ n3_ ⊢
                          have HO_3 := n0_
                          have HO_5 := n1_
                          have BK1775 := n2_
                          have HB := n3_
                          clear n0_ n1_ n2_ n3_
                          replace HO_3 := Aside0.mk (Kd.R_drew HO_3.out)
                          replace HO_5 := Aside0.mk (Kd.R_drew HO_5.out)
                          replace BK1775 := Aside0.mk (blk_drew BK1775.out)
                          replace HB := Aside0.mk (below_drew1 HB.out)
                          have p1789 : 0 ≤ (t1759 : Int) := ofd_
                          have q1789 : t1759 < (t1758.length : Int) := ofd_
                          obtain ⟨ad1789, e1789, hx1789_0⟩ := Kd.at_string (Kd.R_reads' HO_3.out).2.2 t1759 p1789 q1789
                          obtain rfl : ad1769 = ad1789 := (by injection e1789)
                          replace p1789 := eq_true p1789
                          replace q1789 := eq_true q1789
                          refine start_ (n := 25) (S := fun w' => w'.cell? ⟨gb1775, 0, none⟩ = some (.int .u64 t1770) ∧ w'.cell? ⟨gb1775, 1, none⟩ = some (.int .u64 t1771) ∧ w'.cell? ⟨gb1775, 2, none⟩ = some (.int .u64 t1772) ∧ w'.cell? ⟨gb1775, 3, none⟩ = some (.int .u64 t1773) ∧ w'.cell? (ad1769.add (t1759).toNat) = some (.string (rdOf ByteArray.empty t1758 t1759))) (ds := []) #[false, false, false, false, false, false, false, false, false, false, false, false, false, false, false, false, false, false, false, false, false, false, false, false, false] (by kernel_rfl) rfl rfl ⟨(blk_cell BK1775.out 0).trans rfl, (blk_cell BK1775.out 1).trans rfl, (blk_cell BK1775.out 2).trans rfl, (blk_cell BK1775.out 3).trans rfl, hx1789_0⟩ (fun hHeld => ?_); refine with_tabW laws_FnPathProves.tab10 laws_FnPathProves.bits10 (fun HT_ HW_ => ?_)
                          generalize w39.drew = w40 at HO_3 HO_5 BK1775 HB hx1789_0 hHeld ⊢
                          refine pureP_ 0 (some 75) #[true, false, false, false, false, false, false, false, false, false, false, false, false, false, false, false, false, false, false, false, false, false, false, false, false] HT_ ?_
                          refine pureP_ 1 (some 76) #[true, true, false, false, false, false, false, false, false, false, false, false, false, false, false, false, false, false, false, false, false, false, false, false, false] HT_ ?_
                          refine pureP_ 3 (some 78) #[true, true, false, true, false, false, false, false, false, false, false, false, false, false, false, false, false, false, false, false, false, false, false, false, false] HT_ ?_
                          refine takeP_ 2 (some 77) #[true, true, true, true, false, false, false, false, false, false, false, false, false, false, false, false, false, false, false, false, false, false, false, false, false] HT_ HW_ hHeld ?_
                          refine oneP_ 4 (some 79) #[true, true, true, true, true, false, false, false, false, false, false, false, false, false, false, false, false, false, false, false, false, false, false, false, false] HT_ (fun K hK => ?_)
                          refine goN_ Try.func45 #[.slice (some ad1769) t1758.length co7] ?_
                          with_reducible refine (impl_TreeRoot.calls kj14 _ _ t1758 t1776 t1777 t1778 t1779 _ ?side1 ?side2 A29.out).mono ?_
                          (case side1 => repeat (first | exact (Kd.R_reads' HO_3.out).2.2 | (with_reducible refine Kd.C_alloc ?_ _) | (with_reducible refine Kd.C_drewN ?_ _) | (with_reducible refine Kd.C_drew ?_)))
                          (case side2 => exact (Kd.R_reads' HO_3.out).2.1)
                          rintro e w41 ⟨rfl, hb⟩
                          have HS4_ := (hb.cell (World.block_lt_of_cell? _ _ (hHeld.2.2.2.2))).trans (hHeld.2.2.2.2)
                          refine ⟨_, rfl, ?_⟩
                          replace HO_3 := Aside0.mk (Kd.R_below (kdU_ HO_3.out) hb)
                          replace HO_5 := Aside0.mk (Kd.R_below (kdU_ HO_5.out) hb)
                          replace BK1775 := blkBel_ BK1775.out hb
                          replace HB := stepB_ hb
                          (try clear hb); (try clear hk)
                          refine hK.out _ _ ⟨(blk_cell BK1775.out 0).trans rfl, (blk_cell BK1775.out 1).trans rfl, (blk_cell BK1775.out 2).trans rfl, (blk_cell BK1775.out 3).trans rfl, HS4_⟩ (fun hHeld => ?_)
                          clear hK K
                          refine norm_ (a' := ?_) ?_ ?_
                          rotate_left
                          · show Act.put _ (some 79) _ = _
                            simp only [Act.put, List.setIfInBounds_toArray, List.set_cons_zero, List.set_cons_succ, i64_w, i32_w]
                            rfl
                          refine pureP_ 5 (some 80) #[true, true, true, true, true, true, false, false, false, false, false, false, false, false, false, false, false, false, false, false, false, false, false, false, false] HT_ ?_
                          refine pureP_ 6 (some 81) #[true, true, true, true, true, true, true, false, false, false, false, false, false, false, false, false, false, false, false, false, false, false, false, false, false] HT_ ?_
                          refine pureP_ 7 (some 82) #[true, true, true, true, true, true, true, true, false, false, false, false, false, false, false, false, false, false, false, false, false, false, false, false, false] HT_ ?_
                          refine pureP_ 9 (some 84) #[true, true, true, true, true, true, true, true, false, true, false, false, false, false, false, false, false, false, false, false, false, false, false, false, false] HT_ ?_
                          refine takeP_ 8 (some 83) #[true, true, true, true, true, true, true, true, true, true, false, false, false, false, false, false, false, false, false, false, false, false, false, false, false] HT_ HW_ hHeld ?_
                          refine oneP_ 10 (some 85) #[true, true, true, true, true, true, true, true, true, true, true, false, false, false, false, false, false, false, false, false, false, false, false, false, false] HT_ (fun K hK => ?_)
                          refine goN_ Try.func43 #[.slice (some ad1769) t1758.length co7] ?_
                          with_reducible refine (spec_TreeRoot.calls kj14 _ _ t1758 t1780 t1781 t1782 t1783 _ ?side1 ?side2 A31.out).mono ?_
                          (case side1 => repeat (first | exact (Kd.R_reads' HO_3.out).2.2 | (with_reducible refine Kd.C_alloc ?_ _) | (with_reducible refine Kd.C_drewN ?_ _) | (with_reducible refine Kd.C_drew ?_)))
                          (case side2 => exact (Kd.R_reads' HO_3.out).2.1)
                          rintro e w42 ⟨rfl, hb⟩
                          have HS4_ := (hb.cell (World.block_lt_of_cell? _ _ (hHeld.2.2.2.2))).trans (hHeld.2.2.2.2)
                          refine ⟨_, rfl, ?_⟩
                          replace HO_3 := Aside0.mk (Kd.R_below (kdU_ HO_3.out) hb)
                          replace HO_5 := Aside0.mk (Kd.R_below (kdU_ HO_5.out) hb)
                          replace BK1775 := blkBel_ BK1775.out hb
                          replace HB := stepB_ hb
                          (try clear hb); (try clear hk)
                          refine hK.out _ _ ⟨(blk_cell BK1775.out 0).trans rfl, (blk_cell BK1775.out 1).trans rfl, (blk_cell BK1775.out 2).trans rfl, (blk_cell BK1775.out 3).trans rfl, HS4_⟩ (fun hHeld => ?_)
                          clear hK K
                          refine norm_ (a' := ?_) ?_ ?_
                          rotate_left
                          · show Act.put _ (some 85) _ = _
                            simp only [Act.put, List.setIfInBounds_toArray, List.set_cons_zero, List.set_cons_succ, i64_w, i32_w]
                            rfl
                          refine pureP_ 11 (some 86) #[true, true, true, true, true, true, true, true, true, true, true, true, false, false, false, false, false, false, false, false, false, false, false, false, false] HT_ ?_
                          refine pureP_ 12 (some 87) #[true, true, true, true, true, true, true, true, true, true, true, true, true, false, false, false, false, false, false, false, false, false, false, false, false] HT_ ?_
                          refine pureP_ 13 (some 88) #[true, true, true, true, true, true, true, true, true, true, true, true, true, true, false, false, false, false, false, false, false, false, false, false, false] HT_ ?_
                          refine pureP_ 14 (some 89) #[true, true, true, true, true, true, true, true, true, true, true, true, true, true, true, false, false, false, false, false, false, false, false, false, false] HT_ ?_
                          refine pureP_ 16 (some 91) #[true, true, true, true, true, true, true, true, true, true, true, true, true, true, true, false, true, false, false, false, false, false, false, false, false] HT_ ?_
                          refine pureP_ 17 (some 92) #[true, true, true, true, true, true, true, true, true, true, true, true, true, true, true, false, true, true, false, false, false, false, false, false, false] HT_ ?_
                          refine pureP_ 18 (some 93) #[true, true, true, true, true, true, true, true, true, true, true, true, true, true, true, false, true, true, true, false, false, false, false, false, false] HT_ ?_
                          refine pureP_ 19 (some 94) #[true, true, true, true, true, true, true, true, true, true, true, true, true, true, true, false, true, true, true, true, false, false, false, false, false] HT_ ?_
                          refine pureP_ 21 (some 96) #[true, true, true, true, true, true, true, true, true, true, true, true, true, true, true, false, true, true, true, true, false, true, false, false, false] HT_ ?_
                          refine takeP_ 20 (some 95) #[true, true, true, true, true, true, true, true, true, true, true, true, true, true, true, false, true, true, true, true, true, true, false, false, false] HT_ HW_ hHeld ?_
                          refine oneP_ 15 (some 90) #[true, true, true, true, true, true, true, true, true, true, true, true, true, true, true, true, true, true, true, true, true, true, false, false, false] HT_ (fun K hK => ?_)
                          refine goN_ Try.func49 #[.slice (some ad1769) t1758.length co7] ?_
                          with_reducible refine (impl_TreePoint.calls kj14 _ _ t1758 t1784 t1785 t1786 t1787 t1788 _ ?side1 ?side2 A33.out).mono ?_
                          (case side1 => repeat (first | exact (Kd.R_reads' HO_3.out).2.2 | (with_reducible refine Kd.C_alloc ?_ _) | (with_reducible refine Kd.C_drewN ?_ _) | (with_reducible refine Kd.C_drew ?_)))
                          (case side2 => exact (Kd.R_reads' HO_3.out).2.1)
                          rintro e w43 ⟨rfl, hb⟩
                          have HS4_ := (hb.cell (World.block_lt_of_cell? _ _ (hHeld.2.2.2.2))).trans (hHeld.2.2.2.2)
                          refine ⟨_, rfl, ?_⟩
                          replace HO_3 := Aside0.mk (Kd.R_below (kdU_ HO_3.out) hb)
                          replace HO_5 := Aside0.mk (Kd.R_below (kdU_ HO_5.out) hb)
                          replace BK1775 := blkBel_ BK1775.out hb
                          replace HB := stepB_ hb
                          (try clear hb); (try clear hk)
                          refine hK.out _ _ ⟨(blk_cell BK1775.out 0).trans rfl, (blk_cell BK1775.out 1).trans rfl, (blk_cell BK1775.out 2).trans rfl, (blk_cell BK1775.out 3).trans rfl, HS4_⟩ (fun hHeld => ?_)
                          clear hK K
                          refine norm_ (a' := ?_) ?_ ?_
                          rotate_left
                          · show Act.put _ (some 90) _ = _
                            simp only [Act.put, List.setIfInBounds_toArray, List.set_cons_zero, List.set_cons_succ, i64_w, i32_w]
                            rfl
                          refine oneP_ 22 (some 97) #[true, true, true, true, true, true, true, true, true, true, true, true, true, true, true, true, true, true, true, true, true, true, true, false, false] HT_ (fun K hK => ?_)
                          refine goN_ Try.func62 #[.agg #[.int .i64 t1784, .int .u64 t1785, .int .u64 t1786, .int .u64 t1787, .int .u64 t1788], .int .i64 t1759, .string (rdOf ByteArray.empty t1758 t1759), .slice Ao35 t1762.length co35] ?_
                          with_reducible refine (impl_PathCheck.calls kj14 t1784 t1785 t1786 t1787 t1788 t1759 (rdOf ByteArray.empty t1758 t1759) _ _ t1762 t1790 _ ?side1 ?side2 A34.out).mono ?_
                          (case side1 => repeat (first | exact (Kd.R_reads' HO_5.out).2.2 | (with_reducible refine Kd.C_alloc ?_ _) | (with_reducible refine Kd.C_drewN ?_ _) | (with_reducible refine Kd.C_drew ?_)))
                          (case side2 => exact (Kd.R_reads' HO_5.out).2.1)
                          rintro e w44 ⟨rfl, hb⟩
                          have HS4_ := (hb.cell (World.block_lt_of_cell? _ _ (hHeld.2.2.2.2))).trans (hHeld.2.2.2.2)
                          refine ⟨_, rfl, ?_⟩
                          replace HO_3 := Aside0.mk (Kd.R_below (kdU_ HO_3.out) hb)
                          replace HO_5 := Aside0.mk (Kd.R_below (kdU_ HO_5.out) hb)
                          replace BK1775 := blkBel_ BK1775.out hb
                          replace HB := stepB_ hb
                          (try clear hb); (try clear hk)
                          refine hK.out _ _ ⟨(blk_cell BK1775.out 0).trans rfl, (blk_cell BK1775.out 1).trans rfl, (blk_cell BK1775.out 2).trans rfl, (blk_cell BK1775.out 3).trans rfl, HS4_⟩ (fun hHeld => ?_)
                          clear hK K
                          refine norm_ (a' := ?_) ?_ ?_
                          rotate_left
                          · show Act.put _ (some 97) _ = _
                            simp only [Act.put, List.setIfInBounds_toArray, List.set_cons_zero, List.set_cons_succ, i64_w, i32_w]
                            rfl
                          refine pureP_ 23 (some 98) #[true, true, true, true, true, true, true, true, true, true, true, true, true, true, true, true, true, true, true, true, true, true, true, true, false] HT_ ?_
                          refine pureP_ 24 (some 2) #[true, true, true, true, true, true, true, true, true, true, true, true, true, true, true, true, true, true, true, true, true, true, true, true, true] HT_ ?_
                          refine done_ (done_of HT_.out (by kernel_rfl)) ?_
                          try go_wp2
                          go_ret
                          exact ⟨rfl_, bel_⟩
                        · rw [if_neg c32] at H
                          have c32b0 : (t1770 == t1780 && (t1771 == t1781 && (t1772 == t1782 && (t1773 == t1783)))) = false := by simpa using c32
                          (try (have c32b1 : decide (t1770 = t1780 && (t1771 == t1781 && (t1772 == t1782 && (t1773 == t1783)))) = false := by simpa using c32))
                          (try (have c32b2 : (t1770 == t1780 && (t1771 == t1781 && (t1772 == t1782 && (t1773 == t1783)))) = false := by simpa using c32))
                          (try (have c32b3 : ¬ (t1770 = t1780 && (t1771 == t1781 && (t1772 == t1782 && (t1773 == t1783)))) := by simpa using c32))
                          clear c32
                          exact absurd ((Option.some.inj H).trans hr_) (by decide)
                      · rw [if_neg c30] at H
                        have c30b0 : (t1770 == t1776 && (t1771 == t1777 && (t1772 == t1778 && (t1773 == t1779)))) = false := by simpa using c30
                        (try (have c30b1 : decide (t1770 = t1776 && (t1771 == t1777 && (t1772 == t1778 && (t1773 == t1779)))) = false := by simpa using c30))
                        (try (have c30b2 : (t1770 == t1776 && (t1771 == t1777 && (t1772 == t1778 && (t1773 == t1779)))) = false := by simpa using c30))
                        (try (have c30b3 : ¬ (t1770 = t1776 && (t1771 == t1777 && (t1772 == t1778 && (t1773 == t1779)))) := by simpa using c30))
                        clear c30
                        exact absurd ((Option.some.inj H).trans hr_) (by decide)
                    · replace c28 := Bool.eq_false_iff.mpr c28
                      subst c28
                      rw [if_neg (show ¬ (false = true) by decide)] at H
                      exact absurd ((Option.some.inj H).trans hr_) (by decide)
                  · rw [if_neg c26] at H
                    exact absurd H (by simp)
                · rw [if_neg c25] at H
                  exact absurd H (by simp)

/-- THE ONE PURE STATEMENT of laws_FnPathProves: yours. -/
def laws_FnPathProves.Pure : Prop := ∀ (l0 : List Int), l0.length ≤ maxLen → l0.length * 1 ≤ 140737488351232 → (∀ x ∈ l0, (Lit.int .u8 x).wf = true) → ∃ k, laws_FnPathProves.f k l0 = some true
theorem laws_FnPathProves.walk (P : laws_FnPathProves.Pure) (a0 : Option Addr) (len0 cap0 : Nat) (z0 : List Int) (w : World) (w0 : (a0 = none ∧ len0 = 0 ∧ cap0 = 0 ∧ z0 = []) ∨ ∃ x, a0 = some x ∧ len0 ≤ cap0 ∧ cap0 ≤ maxLen ∧ z0.length = cap0 ∧ (∀ i, i < z0.length → w.cell? (x.add i) = some (.int .u8 (z0.getD i 0))) ∧ ∀ n ∈ z0, (Lit.int .u8 n).wf = true) (y0 : len0 * 1 ≤ 140737488351232) :
    Calls Try.prog 19 #[.slice a0 len0 cap0] w fun e w' => e = .returned (.bool true) ∧ Below w.heap.size w w' := by
  obtain ⟨l0, rfl, hr0, hm0, hw0, hc0⟩ := ReadsInt.ofRowC w0
  obtain ⟨k, h⟩ := P l0 hm0 y0 hw0
  refine (laws_FnPathProves.calls k _ _ l0 true rfl w (Kd.C_of_reads (d := (0 : Int)) (h1 := fun _ => rfl) hr0) hc0 h).mono ?_
  rintro e w' ⟨rfl, hd⟩
  exact ⟨rfl, hd⟩

end
end Go.Proofs.Ytemfciflhbhobaa.B
