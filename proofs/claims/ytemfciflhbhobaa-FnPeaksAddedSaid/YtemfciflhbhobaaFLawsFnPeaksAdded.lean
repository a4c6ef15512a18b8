/- What the Go functions loop.example/belfry/laws.FnPeaksAdded do is what the Lean functions .f of their names here say; condition: .f gives an answer. (Written by the session's program pp.py over the kit's print; Lean checks it.) -/
import Derived.Test.YtemfciflhbhobaaK
import Derived.Test.YtemfciflhbhobaaM
import Derived.Test.YtemfciflhbhobaaFImplPeaksAdd
import Derived.Test.YtemfciflhbhobaaFLawsSameDigests
import Derived.Test.YtemfciflhbhobaaFSpecDrawTreePeaks
import Derived.Test.YtemfciflhbhobaaFSpecTreeRoot
import Derived.Test.YtemfciflhbhobaaGEq1
import Derived.Test.YtemfciflhbhobaaGPeaksR1
import Derived.Test.YtemfciflhbhobaaGRuns1
import Derived.Test.YtemfciflhbhobaaGTree1
namespace Go.Proofs.Ytemfciflhbhobaa.B
open Go.RowKit Go.Proofs.YtemfciflhbhobaaW.PrintWords Go.Proofs.YtemfciflhbhobaaW.PrintLast Go.Proofs.YtemfciflhbhobaaW.PrintMore
attribute [local go_sem] max2_int min2_int max_two min_two max_three min_three max_four min_four   -- for this text's walks alone
set_option linter.unusedVariables false
set_option linter.unusedSimpArgs false

section
attribute [local go_sem high] eqA29
/-! ### laws_FnPeaksAdded: function 13 -/
mutual
def laws_FnPeaksAdded.j0 : Nat → List ByteArray → Bool → Option (Bool)
  | 0, _, _ => none
  | k + 1, x3, x20 => if x20 = true then (some true) else (laws_FnPeaksAdded.l0 k x3 (([] : List (S29))) 0)
def laws_FnPeaksAdded.l0 : Nat → List ByteArray → List (S29) → Int → Option (Bool)
  | 0, _, _, _ => none
  | k + 1, x3, x4, x5 => if x5 < (x3.length : Int) then (if 0 ≤ x5 then ((impl_PeaksAdd.f k x5 x4 (rdOf ByteArray.empty x3 x5)).bind fun bt1457 => (if bt1457.2 = true then (if 0 ≤ (wrap64 (x5 + 1)) then (if (wrap64 (x5 + 1)) ≤ (x3.length : Int) then ((spec_TreePeaks.f k (x3.take ((wrap64 (x5 + 1)) : Int).toNat)).bind fun t1465 => ((laws_sameDigests.f k bt1457.1 t1465).bind fun t1468 => (if t1468 = true then ((impl_PeaksRoot.f k bt1457.1).bind fun bt1469 => ((spec_TreeRoot.f k (x3.take ((wrap64 (x5 + 1)) : Int).toNat)).bind fun bt1477 => (if (!(bt1469.1 == bt1477.1) || (!(bt1469.2.1 == bt1477.2.1) || (!(bt1469.2.2.1 == bt1477.2.2.1) || (!(bt1469.2.2.2 == bt1477.2.2.2))))) = true then (some false) else (laws_FnPeaksAdded.l0 k x3 bt1457.1 (wrap64 (x5 + 1)))))) else (some false)))) else (none)) else (none)) else (some false))) else (none)) else (some true)
end
def laws_FnPeaksAdded.f (k : Nat) (l0 : List Int) : Option (Bool) := if (l0.length : Int) > 1048576 then (some true) else ((spec_DrawTreePeaks.f k l0).bind fun t1449 => ((spec_LeavesOk.f k t1449).bind fun t1452 => (if t1452 = true then (laws_FnPeaksAdded.j0 k t1449 (decide ((t1449.length : Int) > 40))) else (laws_FnPeaksAdded.j0 k t1449 true))))
theorem laws_FnPeaksAdded.mono_l : ∀ k, (∀ y0 y1, LeO (laws_FnPeaksAdded.j0 k y0 y1) (laws_FnPeaksAdded.j0 (k + 1) y0 y1)) ∧ (∀ y0 y1 y2, LeO (laws_FnPeaksAdded.l0 k y0 y1 y2) (laws_FnPeaksAdded.l0 (k + 1) y0 y1 y2))
  | 0 => ⟨fun _ _ r h => by simp [laws_FnPeaksAdded.j0] at h, fun _ _ _ r h => by simp [laws_FnPeaksAdded.l0] at h⟩
  | k + 1 => by
    obtain ⟨ih0, ih1⟩ := laws_FnPeaksAdded.mono_l k
    refine ⟨?_, ?_⟩
    · intro y0 y1
      unfold laws_FnPeaksAdded.j0
      repeat' first | (with_reducible first | exact ih0 _ _ | exact ih1 _ _ _ | exact impl_PeaksAdd.mono _ _ _ _ | exact impl_PeaksRoot.mono _ _ | exact laws_sameDigests.mono _ _ _ | exact spec_DrawTreePeaks.mono _ _ | exact spec_LeavesOk.mono _ _ | exact spec_TreePeaks.mono _ _ | exact spec_TreeRoot.mono _ _ | exact LeO.refl _ | exact LeO.none _ | refine LeO.ite ?_ ?_ | refine LeO.bind ?_ (fun _ => ?_)) | exact ih0 _ _ | exact ih1 _ _ _ | exact LeO.none _ | refine LeO.ite ?_ ?_ | refine LeO.bind ?_ (fun _ => ?_)
    · intro y0 y1 y2
      unfold laws_FnPeaksAdded.l0
      repeat' first | (with_reducible first | exact ih0 _ _ | exact ih1 _ _ _ | exact impl_PeaksAdd.mono _ _ _ _ | exact impl_PeaksRoot.mono _ _ | exact laws_sameDigests.mono _ _ _ | exact spec_DrawTreePeaks.mono _ _ | exact spec_LeavesOk.mono _ _ | exact spec_TreePeaks.mono _ _ | exact spec_TreeRoot.mono _ _ | exact LeO.refl _ | exact LeO.none _ | refine LeO.ite ?_ ?_ | refine LeO.bind ?_ (fun _ => ?_)) | exact ih0 _ _ | exact ih1 _ _ _ | exact LeO.none _ | refine LeO.ite ?_ ?_ | refine LeO.bind ?_ (fun _ => ?_)
theorem laws_FnPeaksAdded.mono : ∀ a0 k, LeO (laws_FnPeaksAdded.f k a0) (laws_FnPeaksAdded.f (k + 1) a0) := by
  intro a0 k
  obtain ⟨ih0, ih1⟩ := laws_FnPeaksAdded.mono_l k
  unfold laws_FnPeaksAdded.f
  repeat' first | (with_reducible first | exact ih0 _ _ | exact ih1 _ _ _ | exact impl_PeaksAdd.mono _ _ _ _ | exact impl_PeaksRoot.mono _ _ | exact laws_sameDigests.mono _ _ _ | exact spec_DrawTreePeaks.mono _ _ | exact spec_LeavesOk.mono _ _ | exact spec_TreePeaks.mono _ _ | exact spec_TreeRoot.mono _ _ | exact LeO.refl _ | exact LeO.none _ | refine LeO.ite ?_ ?_ | refine LeO.bind ?_ (fun _ => ?_)) | exact ih0 _ _ | exact ih1 _ _ _ | exact LeO.none _ | refine LeO.ite ?_ ?_ | refine LeO.bind ?_ (fun _ => ?_)
def laws_FnPeaksAdded.T11 : Bool × List (List Nat × List Nat) := (true, [([], []), ([0], [0]), ([1], [1]), ([2], [2]), ([2], [2]), ([2], [2]), ([5, 2], [2, 5]), ([4, 6, 2], [2, 4, 6]), ([7, 2, 2], [2, 7]), ([3, 8, 8, 2], [2, 3, 8]), ([9, 2], [2, 9]), ([2, 10], [2, 10]), ([11, 9], [11]), ([12], [12]), ([13, 12, 12], [12, 13]), ([12], [12]), ([12], [12]), ([16, 12], [12, 16]), ([15, 17, 12], [12, 15, 17]), ([18, 14, 12], [12, 18]), ([14, 19, 12], [12, 14, 19]), ([12, 20], [12, 20])])
def laws_FnPeaksAdded.B11 : List Nat := [0, 1, 3, 7, 7, 7, 39, 119, 247, 511, 1023, 2047, 4095, 8191, 16383, 8191, 8191, 73727, 237567, 524287, 1048575, 2097151]
theorem laws_FnPeaksAdded.tab11 : rtab .any (opsOf Try.f13 11) = laws_FnPeaksAdded.T11 := by kernel_rfl
theorem laws_FnPeaksAdded.bits11 : waitsOk laws_FnPeaksAdded.T11.2 laws_FnPeaksAdded.B11 = true := by kernel_rfl
set_option maxHeartbeats 8000000 in
set_option maxRecDepth 100000 in
theorem laws_FnPeaksAdded.calls (k : Nat) (A0 : Option Addr) (c0 : Nat) (l0 : List Int) (r : Bool) (hr_ : r = true) (w : World) (hr0 : Kd.C (Kd.int .u8) w A0 l0.length l0) (hc0 : l0.length ≤ c0) (h : laws_FnPeaksAdded.f k l0 = some r) :
    Calls Try.prog 13 #[.slice A0 l0.length c0] w fun e w' => e = .returned (.bool r) ∧ Below w.heap.size w w' := by
  have HR0 := Aside0.mk hr0
  have HC0 := Aside0.mk hc0
  clear hr0 hc0
  have HB := Aside0.mk (Below.refl w.heap.size w)
  have H : (if (l0.length : Int) > 1048576 then (some true) else ((spec_DrawTreePeaks.f k l0).bind fun t1449 => ((spec_LeavesOk.f k t1449).bind fun t1452 => (if t1452 = true then (laws_FnPeaksAdded.j0 k t1449 (decide ((t1449.length : Int) > 40))) else (laws_FnPeaksAdded.j0 k t1449 true))))) = some r := h
  clear h
  by_cases c2 : (l0.length : Int) > 1048576
  · rw [if_pos c2] at H
    have c2b0 : decide (1048576 < (l0.length : Int)) = true := decide_eq_true c2
    have c2b1 : decide (1048576 < l0.length) = true := decide_eq_true (by omega)
    clear c2
    obtain rfl := Option.some.inj H
    go_enter Try.func13, Try.ntmps13
    go_wp2
    go_ret
    exact ⟨rfl_, bel_⟩
  · rw [if_neg c2] at H
    have c2b0 : decide (1048576 < (l0.length : Int)) = false := decide_eq_false c2
    have c2b1 : decide (1048576 < l0.length) = false := decide_eq_false (by omega)
    clear c2
    obtain ⟨t1449, A3, H⟩ := bnd_ H
    have HC4 := Aside0.mk H
    clear H
    go_enter Try.func13, Try.ntmps13
    go_upto_region 4 with (first | ((with_reducible refine gate_callee (f := 66) rfl ?_); refine goL_ (some 12) Try.func66 #[.slice A0 l0.length c0] ?_; (with_reducible refine (spec_DrawTreePeaks.calls k _ _ l0 t1449 _ ?side1 ?side2 A3.out).mono ?_); (case side1 => repeat (first | exact HR0.out | (with_reducible refine Kd.C_alloc ?_ _) | (with_reducible refine Kd.C_drewN ?_ _) | (with_reducible refine Kd.C_drew ?_))); (case side2 => exact HC0.out); rintro e w5 ⟨v1450, rfl, ho0, hb⟩; refine ⟨_, rfl, ?_⟩; have HO1451 := Aside0.mk (Kd.R_lower ho0 (below_size bel_)); replace HB := stepB_ hb; (try clear hb); (try clear ho0)))
    (try simp only [Act.put, List.setIfInBounds_toArray, List.set_cons_zero, List.set_cons_succ])
    go_cut [20] (fun v20 wc => ∃ (kq : Nat) (x20_3 : Bool), v20 = .bool x20_3 ∧ Aside0 (laws_FnPeaksAdded.j0 kq t1449 x20_3 = some r) ∧ Aside0 (kq ≤ k) ∧ Aside0 (Kd.R Kd.string 9 wc w.heap.size (fun _ => True) v1450 t1449) ∧ Aside0 (Below w.heap.size w wc))
    case first =>
      have H := HC4.out
      clear HC4
      obtain ⟨t1452, A6, H⟩ := bnd_ H
      by_cases c7 : t1452 = true
      · subst c7
        rw [if_pos rfl] at H
        have H' := Aside0.mk H
        clear H
        obtain ⟨Ao8, co8, eo8⟩ := Kd.R_slice HO1451.out
        subst eo8
        go_wp2_with (first | ((with_reducible refine gate_callee (f := 53) rfl ?_); refine goL_ (some 14) Try.func53 #[.slice Ao8 t1449.length co8] ?_; (with_reducible refine (spec_LeavesOk.calls k _ _ t1449 true _ ?side1 ?side2 A6.out).mono ?_); (case side1 => repeat (first | exact (Kd.R_reads' HO1451.out).2.2 | (with_reducible refine Kd.C_alloc ?_ _) | (with_reducible refine Kd.C_drewN ?_ _) | (with_reducible refine Kd.C_drew ?_))); (case side2 => exact (Kd.R_reads' HO1451.out).2.1); rintro e w' ⟨rfl, ⟨nd, rfl⟩⟩; refine ⟨_, rfl, ?_⟩))
        go_meet
        case rel => exact ⟨_, (decide ((t1449.length : Int) > 40)), (by first | rfl | (simp; done) | (simp [*]; done)), H', ⟨by first | omega | exact Nat.le_refl _⟩, ⟨kdU_ HO1451.out⟩, ⟨bel_⟩⟩
      · replace c7 := Bool.eq_false_iff.mpr c7
        subst c7
        rw [if_neg (show ¬ (false = true) by decide)] at H
        have H' := Aside0.mk H
        clear H
        obtain ⟨Ao9, co9, eo9⟩ := Kd.R_slice HO1451.out
        subst eo9
        go_wp2_with (first | ((with_reducible refine gate_callee (f := 53) rfl ?_); refine goL_ (some 14) Try.func53 #[.slice Ao9 t1449.length co9] ?_; (with_reducible refine (spec_LeavesOk.calls k _ _ t1449 false _ ?side1 ?side2 A6.out).mono ?_); (case side1 => repeat (first | exact (Kd.R_reads' HO1451.out).2.2 | (with_reducible refine Kd.C_alloc ?_ _) | (with_reducible refine Kd.C_drewN ?_ _) | (with_reducible refine Kd.C_drew ?_))); (case side2 => exact (Kd.R_reads' HO1451.out).2.1); rintro e w' ⟨rfl, ⟨nd, rfl⟩⟩; refine ⟨_, rfl, ?_⟩))
        go_meet
        case rel => exact ⟨_, (true), (by first | rfl | (simp; done) | (simp [*]; done)), H', ⟨by first | omega | exact Nat.le_refl _⟩, ⟨kdU_ HO1451.out⟩, ⟨bel_⟩⟩
    case rest =>
      clear HC4
      (try clear c2); (try clear c2b0); (try clear c2b1); (try clear c7)
      obtain ⟨kq, x20_3, rfl, HA, HJ3, HO_3, HB⟩ := hcut
      cases kq with
      | zero => exact absurd HA.out (by simp [laws_FnPeaksAdded.j0])
      | succ kj3 =>
        have H := HA.out
        clear HA
        simp only [laws_FnPeaksAdded.j0] at H
        by_cases c10 : x20_3 = true
        · subst c10
          rw [if_pos rfl] at H
          obtain rfl := Option.some.inj H
          go_wp2
          go_ret
          exact ⟨rfl_, bel_⟩
        · replace c10 := Bool.eq_false_iff.mpr c10
          subst c10
          rw [if_neg (show ¬ (false = true) by decide)] at H
          obtain ⟨y1453, hy1453⟩ : ∃ y_ : List (S29), y_ = (([] : List (S29))) := ⟨_, rfl⟩
          replace H : (laws_FnPeaksAdded.l0 kj3 t1449 y1453 0) = some r := by first | (rw [hy1453]; with_reducible exact H) | (have H2_ := (Option.bind_some _ _).symm.trans H; rw [hy1453]; with_reducible exact H2_) | (have H2_ := (Option.bind_some _ _).symm.trans H; with_reducible exact H2_) | with_reducible exact H | (rw [hy1453]; exact H) | exact H
          have Ny1453 := Aside0.mk hy1453
          clear hy1453
          have H' := Aside0.mk H
          clear H
          go_wp2_with (first | ((with_reducible refine gate_dst (N := 21) rfl ?_); (try (refine gate_guard (by rfl) ?_; dsimp only)); refine Kd.R_lit k29 _ 29 ?hg (N := 21) ?hd (xs := ([] : List (S29))) (inner := []) (ok := fun _ => True) (okp := fun _ => True) ?hr ?hp (fun _ hk => hk) trivial (Below.refl _ _) (Nat.le_refl _) (by simp) ?_; (case hd => rfl); (case hg => rfl); (case hr => first | (go_simp; done) | (go_simp; rfl)); (case hp => exact (Reps.none _ _)); intro v1454 w11 ho12 hb hg_ hnew_; clear hg_ hnew_; (first | rw [← Ny1453.out] at ho12 | (simp only [Int.reduceToNat] at ho12; rw [← Ny1453.out] at ho12)); replace HO_3 := Aside0.mk (Kd.R_below (kdU_ HO_3.out) hb); have HO1455 := Aside0.mk (Kd.R_lower ho12 (below_size bel_)); replace HB := stepB_ hb; clear hb ho12))
          go_loopg [4, 5] kj3 (fun kq v4 v5 w' => ∃ (x4_2 : List (S29)) (x5_2 : Int), v5 = .int .i64 x5_2 ∧ Aside0 (laws_FnPeaksAdded.l0 kq t1449 x4_2 x5_2 = some r) ∧ Aside0 (kq ≤ kj3) ∧ Aside0 (Kd.R Kd.string 9 w' w.heap.size (fun _ => True) v1450 t1449) ∧ Aside0 (Kd.R k29 29 w' w.heap.size (fun _ => True) v4 x4_2) ∧ Aside0 (Below w.heap.size w w'))
          case atStart => exact ⟨(y1453), (0), (by first | rfl | (simp; done) | (simp [*]; done)), H', ⟨Nat.le_refl _⟩, ⟨kdU_ HO_3.out⟩, ⟨kdU_ HO1455.out⟩, ⟨bel_⟩⟩
          case round =>
            clear H'
            (try clear c2); (try clear c2b0); (try clear c2b1); (try clear c7); (try clear c10)
            obtain ⟨x4_2, x5_2, rfl, HA, HK2, HO_3, HO_4, HB⟩ := hrel
            cases gk with
            | zero => exact absurd HA.out (by simp [laws_FnPeaksAdded.l0])
            | succ k2 =>
              have H := HA.out
              clear HA
              simp only [laws_FnPeaksAdded.l0] at H
              by_cases c13 : x5_2 < (t1449.length : Int)
              · rw [if_pos c13] at H
                have c13b0 : decide (x5_2 < (t1449.length : Int)) = true := decide_eq_true c13
                clear c13
                by_cases c14 : 0 ≤ x5_2
                · rw [if_pos c14] at H
                  have c14b0 : decide (0 ≤ x5_2) = true := decide_eq_true c14
                  clear c14
                  obtain ⟨⟨t1457, t1458⟩, A15, H⟩ := bnd_ H
                  dsimp only at H
                  by_cases c16 : t1458 = true
                  · subst c16
                    rw [if_pos rfl] at H
                    obtain ⟨ji17, hji17⟩ : ∃ j_ : Int, (wrap64 (x5_2 + 1)) = j_ := ⟨_, rfl⟩
                    replace H : (if 0 ≤ (ji17) then (if (ji17) ≤ (t1449.length : Int) then ((spec_TreePeaks.f k2 (t1449.take ((ji17) : Int).toNat)).bind fun t1465 => ((laws_sameDigests.f k2 t1457 t1465).bind fun t1468 => (if t1468 = true then ((impl_PeaksRoot.f k2 t1457).bind fun bt1469 => ((spec_TreeRoot.f k2 (t1449.take ((ji17) : Int).toNat)).bind fun bt1477 => (if (!(bt1469.1 == bt1477.1) || (!(bt1469.2.1 == bt1477.2.1) || (!(bt1469.2.2.1 == bt1477.2.2.1) || (!(bt1469.2.2.2 == bt1477.2.2.2))))) = true then (some false) else (laws_FnPeaksAdded.l0 k2 t1449 t1457 ji17)))) else (some false)))) else (none)) else (none)) = some r := by first | (rw [hji17] at H; exact H) | (simp only [hji17] at H ⊢; exact H)
                    (try rw [hji17] at A15)
                    have hji17w : (IntKind.i64.wrap (x5_2 + 1)) = ji17 := (i64_w _).trans hji17
                    by_cases c18 : 0 ≤ (ji17)
                    · rw [if_pos c18] at H
                      have c18b0 := eq_true c18
                      have c18b1 : decide (0 ≤ (ji17)) = true := decide_eq_true c18
                      clear c18
                      by_cases c19 : (ji17) ≤ (t1449.length : Int)
                      · rw [if_pos c19] at H
                        have c19b0 := eq_true c19
                        have c19b1 : decide ((ji17) ≤ (t1449.length : Int)) = true := decide_eq_true c19
                        clear c19
                        obtain ⟨y1461, hy1461⟩ : ∃ y_ : List ByteArray, y_ = (t1449.take ((ji17) : Int).toNat) := ⟨_, rfl⟩
                        replace H : ((spec_TreePeaks.f k2 y1461).bind fun t1465 => ((laws_sameDigests.f k2 t1457 t1465).bind fun t1468 => (if t1468 = true then ((impl_PeaksRoot.f k2 t1457).bind fun bt1469 => ((spec_TreeRoot.f k2 (t1449.take ((ji17) : Int).toNat)).bind fun bt1477 => (if (!(bt1469.1 == bt1477.1) || (!(bt1469.2.1 == bt1477.2.1) || (!(bt1469.2.2.1 == bt1477.2.2.1) || (!(bt1469.2.2.2 == bt1477.2.2.2))))) = true then (some false) else (laws_FnPeaksAdded.l0 k2 t1449 t1457 ji17)))) else (some false)))) = some r := by first | (rw [hy1461]; with_reducible exact H) | (have H2_ := (Option.bind_some _ _).symm.trans H; rw [hy1461]; with_reducible exact H2_) | (have H2_ := (Option.bind_some _ _).symm.trans H; with_reducible exact H2_) | with_reducible exact H | (rw [hy1461]; exact H) | exact H
                        have Ny1461 := Aside0.mk hy1461
                        clear hy1461
                        obtain ⟨t1465, A20, H⟩ := bnd_ H
                        obtain ⟨t1468, A21, H⟩ := bnd_ H
                        by_cases c22 : t1468 = true
                        · subst c22
                          rw [if_pos rfl] at H
                          obtain ⟨⟨t1469, t1470, t1471, t1472⟩, A23, H⟩ := bnd_ H
                          dsimp only at H
                          have c24b0 := eq_true (ofd_ : 0 ≤ (ji17))
                          have c25b0 := eq_true (ofd_ : (ji17) ≤ (t1449.length : Int))
                          obtain ⟨y1473, hy1473⟩ : ∃ y_ : List ByteArray, y_ = (t1449.take ((ji17) : Int).toNat) := ⟨_, rfl⟩
                          replace H : ((spec_TreeRoot.f k2 y1473).bind fun bt1477 => (if (!(t1469 == bt1477.1) || (!(t1470 == bt1477.2.1) || (!(t1471 == bt1477.2.2.1) || (!(t1472 == bt1477.2.2.2))))) = true then (some false) else (laws_FnPeaksAdded.l0 k2 t1449 t1457 ji17))) = some r := by first | (rw [hy1473]; with_reducible exact H) | (have H2_ := (Option.bind_some _ _).symm.trans H; rw [hy1473]; with_reducible exact H2_) | (have H2_ := (Option.bind_some _ _).symm.trans H; with_reducible exact H2_) | with_reducible exact H | (rw [hy1473]; exact H) | exact H
                          have Ny1473 := Aside0.mk hy1473
                          clear hy1473
                          obtain ⟨⟨t1477, t1478, t1479, t1480⟩, A26, H⟩ := bnd_ H
                          dsimp only at H
                          by_cases c27 : (!(t1469 == t1477) || (!(t1470 == t1478) || (!(t1471 == t1479) || (!(t1472 == t1480))))) = true
                          · rw [if_pos c27] at H
                            have c27b0 : (!(t1469 == t1477) || (!(t1470 == t1478) || (!(t1471 == t1479) || (!(t1472 == t1480))))) = true := c27
                            clear c27
                            exact absurd ((Option.some.inj H).trans hr_) (by decide)
                          · rw [if_neg c27] at H
                            have c27b0 : (!(t1469 == t1477) || (!(t1470 == t1478) || (!(t1471 == t1479) || (!(t1472 == t1480))))) = false := by simpa using c27
                            clear c27
                            have H' := Aside0.mk H
                            clear H
                            obtain ⟨Ao28, co28, eo28⟩ := Kd.R_slice HO_3.out
                            subst eo28
                            have p1456 : 0 ≤ (x5_2 : Int) := ofd_
                            have q1456 : x5_2 < (t1449.length : Int) := ofd_
                            obtain ⟨ad1456, e1456, hx1456_0⟩ := Kd.at_string (Kd.R_reads' HO_3.out).2.2 x5_2 p1456 q1456
                            cases e1456
                            replace p1456 := eq_true p1456
                            replace q1456 := eq_true q1456
                            obtain ⟨Ao29, co29, eo29⟩ := Kd.R_slice HO_4.out
                            subst eo29
                            try go_wp2_with (first | ((with_reducible refine gate_callee (f := 58) rfl ?_); refine goL_ (some 35) Try.func58 #[.int .i64 x5_2, .slice Ao29 x4_2.length co29, .string (rdOf ByteArray.empty t1449 x5_2)] ?_; (with_reducible refine (impl_PeaksAdd.calls k2 x5_2 _ _ x4_2 (rdOf ByteArray.empty t1449 x5_2) t1457 true _ ?side1 ?side2 A15.out).mono ?_); (case side1 => repeat (first | exact (Kd.R_reads' HO_4.out).2.2 | (with_reducible refine Kd.C_alloc ?_ _) | (with_reducible refine Kd.C_drewN ?_ _) | (with_reducible refine Kd.C_drew ?_))); (case side2 => exact (Kd.R_reads' HO_4.out).2.1); rintro e w30 ⟨v1459, rfl, ho0, hb⟩; refine ⟨_, rfl, ?_⟩; replace HO_3 := Aside0.mk (Kd.R_below (kdU_ HO_3.out) hb); have HO1460 := Aside0.mk (Kd.R_lower (Kd.R_new' ho0 (Kd.R_lt (kdU_ HO_4.out))) (below_size bel_)); replace HO_4 := Aside0.mk (Kd.R_elder' (kdU_ HO_4.out) (Kd.R_base ho0) hb); replace HB := stepB_ hb; (try clear hb); (try clear hk); (try clear ho0)))
                            replace HO_3 := Aside0.mk (Kd.R_drew HO_3.out)
                            replace HO_4 := Aside0.mk (Kd.R_drew HO_4.out)
                            replace HO1460 := Aside0.mk (Kd.R_drew HO1460.out)
                            replace HB := Aside0.mk (below_drew1 HB.out)
                            have q32 : ((ji17) : Int) ≤ ((t1449.length : Int) : Int) := ofd_
                            obtain ⟨i032, hi032, _, hsz32, _⟩ := info_parts info9
                            have hroom32 : t1449.length ≤ co28 := (Kd.R_reads' HO_3.out).2.1
                            have hC32 : Kd.C Kd.string _ (some ad1456) t1449.length t1449 := (Kd.R_reads' HO_3.out).2.2
                            have hcut32 := cut_to (P := Try.prog) 60 9 .i64 Try.underlying60 hi032 (some ad1456) t1449.length co28 (ji17) (ofd_) q32 hroom32
                            have hr32 := Kd.C_take (m := ((ji17) : Int).toNat) hC32 (by omega)
                            have hy32 : y1461.length = ((ji17) : Int).toNat := (by rw [Ny1461.out, List.length_take]; omega)
                            rw [← Ny1461.out] at hr32
                            rw [← hy32] at hcut32
                            have HR1464 := Aside0.mk hr32
                            have HC1464 := Aside0.mk (show y1461.length ≤ co28 from by omega)
                            clear hr32 hC32 hroom32 hi032 hsz32
                            have KY32 := Aside0.mk hy32
                            clear hy32
                            have KL32 := Aside0.mk (show ((ji17) : Int).toNat ≤ t1449.length from by omega)
                            replace q32 := eq_true q32
                            refine start_ (n := 22) (S := fun w' => True) (ds := []) #[false, false, false, false, false, false, false, false, false, false, false, false, false, false, false, false, false, false, false, false, false, false] (by kernel_rfl) rfl rfl trivial (fun hHeld => ?_); refine with_tabW laws_FnPeaksAdded.tab11 laws_FnPeaksAdded.bits11 (fun HT_ HW_ => ?_)
                            generalize w30.drew = w31 at HO_3 HO_4 HO1460 HB HR1464 hHeld ⊢
                            refine pureP_ 0 (some 38) #[true, false, false, false, false, false, false, false, false, false, false, false, false, false, false, false, false, false, false, false, false, false] HT_ ?_
                            refine pureP_ 1 (some 39) #[true, true, false, false, false, false, false, false, false, false, false, false, false, false, false, false, false, false, false, false, false, false] HT_ ?_
                            refine pureP_ 2 (some 40) #[true, true, true, false, false, false, false, false, false, false, false, false, false, false, false, false, false, false, false, false, false, false] HT_ ?_
                            refine pureP_ 3 (some 41) #[true, true, true, true, false, false, false, false, false, false, false, false, false, false, false, false, false, false, false, false, false, false] HT_ ?_
                            refine pureP_ 4 (some 42) #[true, true, true, true, true, false, false, false, false, false, false, false, false, false, false, false, false, false, false, false, false, false] HT_ ?_
                            refine pureP_ 5 (some 43) #[true, true, true, true, true, true, false, false, false, false, false, false, false, false, false, false, false, false, false, false, false, false] HT_ ?_
                            refine pureP_ 6 (some 44) #[true, true, true, true, true, true, true, false, false, false, false, false, false, false, false, false, false, false, false, false, false, false] HT_ ?_
                            refine pureP_ 7 (some 45) #[true, true, true, true, true, true, true, true, false, false, false, false, false, false, false, false, false, false, false, false, false, false] HT_ ?_
                            refine oneP_ 8 (some 46) #[true, true, true, true, true, true, true, true, true, false, false, false, false, false, false, false, false, false, false, false, false, false] HT_ (fun K hK => ?_)
                            refine goN_ Try.func63 #[.slice (some ad1456) y1461.length co28] ?_
                            with_reducible refine (spec_TreePeaks.calls k2 _ _ y1461 t1465 _ ?side1 ?side2 A20.out).mono ?_
                            (case side1 => repeat (first | exact (by repeat (first | (with_reducible exact HR1464.out) | (with_reducible refine Kd.C_alloc ?_ _) | (with_reducible refine Kd.C_drewN ?_ _) | (with_reducible refine Kd.C_drew ?_) | exact HR1464.out)) | (with_reducible refine Kd.C_alloc ?_ _) | (with_reducible refine Kd.C_drewN ?_ _) | (with_reducible refine Kd.C_drew ?_)))
                            (case side2 => exact HC1464.out)
                            rintro e w33 ⟨v1466, rfl, ho0, hb⟩
                            refine ⟨_, rfl, ?_⟩
                            replace HO_3 := Aside0.mk (Kd.R_below (kdU_ HO_3.out) hb)
                            have HO1467 := Aside0.mk (Kd.R_lower (Kd.R_new' (Kd.R_new' ho0 (Kd.R_lt (kdU_ HO_4.out))) (Kd.R_lt (kdU_ HO1460.out))) (below_size bel_))
                            replace HO_4 := Aside0.mk (Kd.R_elder' (kdU_ HO_4.out) (Kd.R_base ho0) hb)
                            replace HO1460 := Aside0.mk (Kd.R_elder' (kdU_ HO1460.out) (Kd.R_base ho0) hb)
                            replace HR1464 := Aside0.mk (Kd.C_below (by repeat (first | (with_reducible exact HR1464.out) | (with_reducible refine Kd.C_alloc ?_ _) | (with_reducible refine Kd.C_drewN ?_ _) | (with_reducible refine Kd.C_drew ?_) | exact HR1464.out)) hb)
                            replace HB := stepB_ hb
                            (try clear hb); (try clear hk); (try clear ho0)
                            obtain ⟨Ao34, co34, eo34⟩ := Kd.R_slice HO1460.out
                            (first | subst eo34 | (injection eo34 with f1_ f2_ f3_; have f4_ := f1_.symm; have f5_ := f3_.symm; clear f1_ f2_ f3_; subst f4_; subst f5_))
                            obtain ⟨Ao35, co35, eo35⟩ := Kd.R_slice HO1467.out
                            (first | subst eo35 | (injection eo35 with f1_ f2_ f3_; have f4_ := f1_.symm; have f5_ := f3_.symm; clear f1_ f2_ f3_; subst f4_; subst f5_))
                            refine hK.out _ _ trivial (fun hHeld => ?_)
                            clear hK K
                            refine norm_ (a' := ?_) ?_ ?_
                            rotate_left
                            · show Act.put _ (some 46) _ = _
                              simp only [Act.put, List.setIfInBounds_toArray, List.set_cons_zero, List.set_cons_succ, i64_w, i32_w]
                              rfl
                            refine oneP_ 9 (some 47) #[true, true, true, true, true, true, true, true, true, true, false, false, false, false, false, false, false, false, false, false, false, false] HT_ (fun K hK => ?_)
                            refine goN_ Try.func67 #[.slice Ao34 t1457.length co34, .slice Ao35 t1465.length co35] ?_
                            with_reducible refine (laws_sameDigests.calls k2 _ _ t1457 _ _ t1465 true _ ?side1 ?side2 ?side3 ?side4 A21.out).mono ?_
                            (case side1 => repeat (first | exact (Kd.R_reads' HO1460.out).2.2 | (with_reducible refine Kd.C_alloc ?_ _) | (with_reducible refine Kd.C_drewN ?_ _) | (with_reducible refine Kd.C_drew ?_)))
                            (case side2 => exact (Kd.R_reads' HO1460.out).2.1)
                            (case side3 => repeat (first | exact (Kd.R_reads' HO1467.out).2.2 | (with_reducible refine Kd.C_alloc ?_ _) | (with_reducible refine Kd.C_drewN ?_ _) | (with_reducible refine Kd.C_drew ?_)))
                            (case side4 => exact (Kd.R_reads' HO1467.out).2.1)
                            rintro e w' ⟨rfl, ⟨nd, rfl⟩⟩
                            refine ⟨_, rfl, ?_⟩
                            refine hK.out _ _ trivial (fun hHeld => ?_)
                            clear hK K
                            refine norm_ (a' := ?_) ?_ ?_
                            rotate_left
                            · show Act.put _ (some 47) _ = _
                              simp only [Act.put, List.setIfInBounds_toArray, List.set_cons_zero, List.set_cons_succ, i64_w, i32_w]
                              rfl
                            refine pureP_ 10 (some 48) #[true, true, true, true, true, true, true, true, true, true, true, false, false, false, false, false, false, false, false, false, false, false] HT_ ?_
                            refine pureP_ 11 (some 49) #[true, true, true, true, true, true, true, true, true, true, true, true, false, false, false, false, false, false, false, false, false, false] HT_ ?_
                            refine pureP_ 12 (some 50) #[true, true, true, true, true, true, true, true, true, true, true, true, true, false, false, false, false, false, false, false, false, false] HT_ ?_
                            refine pureP_ 13 (some 51) #[true, true, true, true, true, true, true, true, true, true, true, true, true, true, false, false, false, false, false, false, false, false] HT_ ?_
                            refine pureP_ 15 (some 53) #[true, true, true, true, true, true, true, true, true, true, true, true, true, true, false, true, false, false, false, false, false, false] HT_ ?_
                            refine pureP_ 16 (some 54) #[true, true, true, true, true, true, true, true, true, true, true, true, true, true, false, true, true, false, false, false, false, false] HT_ ?_
                            refine pureP_ 17 (some 55) #[true, true, true, true, true, true, true, true, true, true, true, true, true, true, false, true, true, true, false, false, false, false] HT_ ?_
                            refine pureP_ 18 (some 56) #[true, true, true, true, true, true, true, true, true, true, true, true, true, true, false, true, true, true, true, false, false, false] HT_ ?_
                            refine oneP_ 14 (some 52) #[true, true, true, true, true, true, true, true, true, true, true, true, true, true, true, true, true, true, true, false, false, false] HT_ (fun K hK => ?_)
                            refine goN_ Try.func68 #[.slice Ao34 t1457.length co34] ?_
                            with_reducible refine (impl_PeaksRoot.calls k2 _ _ t1457 t1469 t1470 t1471 t1472 _ ?side1 ?side2 A23.out).mono ?_
                            (case side1 => repeat (first | exact (Kd.R_reads' HO1460.out).2.2 | (with_reducible refine Kd.C_alloc ?_ _) | (with_reducible refine Kd.C_drewN ?_ _) | (with_reducible refine Kd.C_drew ?_)))
                            (case side2 => exact (Kd.R_reads' HO1460.out).2.1)
                            rintro e w36 ⟨rfl, hb⟩
                            refine ⟨_, rfl, ?_⟩
                            replace HO_3 := Aside0.mk (Kd.R_below (kdU_ HO_3.out) hb)
                            replace HO_4 := Aside0.mk (Kd.R_below (kdU_ HO_4.out) hb)
                            replace HO1460 := Aside0.mk (Kd.R_below (kdU_ HO1460.out) hb)
                            replace HO1467 := Aside0.mk (Kd.R_below (kdU_ HO1467.out) hb)
                            replace HR1464 := Aside0.mk (Kd.C_below (by repeat (first | (with_reducible exact HR1464.out) | (with_reducible refine Kd.C_alloc ?_ _) | (with_reducible refine Kd.C_drewN ?_ _) | (with_reducible refine Kd.C_drew ?_) | exact HR1464.out)) hb)
                            replace HB := stepB_ hb
                            (try clear hb); (try clear hk)
                            have q37 : ((ji17) : Int) ≤ ((t1449.length : Int) : Int) := ofd_
                            obtain ⟨i037, hi037, _, hsz37, _⟩ := info_parts info9
                            have hroom37 : t1449.length ≤ co28 := (Kd.R_reads' HO_3.out).2.1
                            have hC37 : Kd.C Kd.string _ (some ad1456) t1449.length t1449 := (Kd.R_reads' HO_3.out).2.2
                            have hcut37 := cut_to (P := Try.prog) 60 9 .i64 Try.underlying60 hi037 (some ad1456) t1449.length co28 (ji17) (ofd_) q37 hroom37
                            have hr37 := Kd.C_take (m := ((ji17) : Int).toNat) hC37 (by omega)
                            have hy37 : y1473.length = ((ji17) : Int).toNat := (by rw [Ny1473.out, List.length_take]; omega)
                            rw [← Ny1473.out] at hr37
                            rw [← hy37] at hcut37
                            have HR1476 := Aside0.mk hr37
                            have HC1476 := Aside0.mk (show y1473.length ≤ co28 from by omega)
                            clear hr37 hC37 hroom37 hi037 hsz37
                            have KY37 := Aside0.mk hy37
                            clear hy37
                            have KL37 := Aside0.mk (show ((ji17) : Int).toNat ≤ t1449.length from by omega)
                            replace q37 := eq_true q37
                            refine hK.out _ _ trivial (fun hHeld => ?_)
                            clear hK K
                            refine norm_ (a' := ?_) ?_ ?_
                            rotate_left
                            · show Act.put _ (some 52) _ = _
                              simp only [Act.put, List.setIfInBounds_toArray, List.set_cons_zero, List.set_cons_succ, i64_w, i32_w]
                              rfl
                            refine oneP_ 19 (some 57) #[true, true, true, true, true, true, true, true, true, true, true, true, true, true, true, true, true, true, true, true, false, false] HT_ (fun K hK => ?_)
                            refine goN_ Try.func43 #[.slice (some ad1456) y1473.length co28] ?_ (hargs := by rw [show y1473 = y1461 from Ny1473.out.trans Ny1461.out.symm]; first | rfl | (simp only [List.map_toArray, List.map_cons, List.map_nil]; rfl))
                            with_reducible refine (spec_TreeRoot.calls k2 _ _ y1473 t1477 t1478 t1479 t1480 _ ?side1 ?side2 A26.out).mono ?_
                            (case side1 => repeat (first | exact (by repeat (first | (with_reducible exact HR1476.out) | (with_reducible refine Kd.C_alloc ?_ _) | (with_reducible refine Kd.C_drewN ?_ _) | (with_reducible refine Kd.C_drew ?_) | exact HR1476.out)) | (with_reducible refine Kd.C_alloc ?_ _) | (with_reducible refine Kd.C_drewN ?_ _) | (with_reducible refine Kd.C_drew ?_)))
                            (case side2 => exact HC1476.out)
                            rintro e w38 ⟨rfl, hb⟩
                            refine ⟨_, rfl, ?_⟩
                            replace HO_3 := Aside0.mk (Kd.R_below (kdU_ HO_3.out) hb)
                            replace HO_4 := Aside0.mk (Kd.R_below (kdU_ HO_4.out) hb)
                            replace HO1460 := Aside0.mk (Kd.R_below (kdU_ HO1460.out) hb)
                            replace HO1467 := Aside0.mk (Kd.R_below (kdU_ HO1467.out) hb)
                            replace HR1464 := Aside0.mk (Kd.C_below (by repeat (first | (with_reducible exact HR1464.out) | (with_reducible refine Kd.C_alloc ?_ _) | (with_reducible refine Kd.C_drewN ?_ _) | (with_reducible refine Kd.C_drew ?_) | exact HR1464.out)) hb)
                            replace HR1476 := Aside0.mk (Kd.C_below (by repeat (first | (with_reducible exact HR1476.out) | (with_reducible refine Kd.C_alloc ?_ _) | (with_reducible refine Kd.C_drewN ?_ _) | (with_reducible refine Kd.C_drew ?_) | exact HR1476.out)) hb)
                            replace HB := stepB_ hb
                            (try clear hb); (try clear hk)
                            refine hK.out _ _ trivial (fun hHeld => ?_)
                            clear hK K
                            refine norm_ (a' := ?_) ?_ ?_
                            rotate_left
                            · show Act.put _ (some 57) _ = _
                              simp only [Act.put, List.setIfInBounds_toArray, List.set_cons_zero, List.set_cons_succ, i64_w, i32_w]
                              rfl
                            refine pureP_ 20 (some 58) #[true, true, true, true, true, true, true, true, true, true, true, true, true, true, true, true, true, true, true, true, true, false] HT_ ?_
                            refine pureP_ 21 (some 59) #[true, true, true, true, true, true, true, true, true, true, true, true, true, true, true, true, true, true, true, true, true, true] HT_ ?_
                            refine done_ (done_of HT_.out (by kernel_rfl)) ?_
                            try go_wp2
                            go_roundg k2
                            case measure => have := HJ3.out; have := HK2.out; omega
                            case rel => exact ⟨(t1457), (ji17), (by first | rfl | (simp; done) | (simp only [← hji17] <;> (first | rfl | simp)) | (simp [*]; done)), H', ⟨by have := HJ3.out; have := HK2.out; omega⟩, ⟨kdU_ HO_3.out⟩, ⟨by (with_reducible repeat (first | apply Kd.R_alloc | apply Kd.R_drewN | apply Kd.R_drew)); exact Kd.R_mono HO1460.out (fun _ hk => trivial)⟩, ⟨bel_⟩⟩
                        · replace c22 := Bool.eq_false_iff.mpr c22
                          subst c22
                          rw [if_neg (show ¬ (false = true) by decide)] at H
                          exact absurd ((Option.some.inj H).trans hr_) (by decide)
                      · rw [if_neg c19] at H
                        exact absurd H (by simp)
                    · rw [if_neg c18] at H
                      exact absurd H (by simp)
                  · replace c16 := Bool.eq_false_iff.mpr c16
                    subst c16
                    rw [if_neg (show ¬ (false = true) by decide)] at H
                    exact absurd ((Option.some.inj H).trans hr_) (by decide)
                · rw [if_neg c14] at H
                  exact absurd H (by simp)
              · rw [if_neg c13] at H
                have c13b0 : decide (x5_2 < (t1449.length : Int)) = false := decide_eq_false c13
                clear c13
                obtain rfl := Option.some.inj H
                obtain ⟨Ao39, co39, eo39⟩ := Kd.R_slice HO_3.out
                subst eo39
                go_wp2
                go_ret
                exact ⟨rfl_, bel_⟩

/-- THE ONE PURE STATEMENT of laws_FnPeaksAdded: yours. -/
def laws_FnPeaksAdded.Pure : Prop := ∀ (l0 : List Int), l0.length ≤ maxLen → l0.length * 1 ≤ 140737488351232 → (∀ x ∈ l0, (Lit.int .u8 x).wf = true) → ∃ k, laws_FnPeaksAdded.f k l0 = some true
theorem laws_FnPeaksAdded.walk (P : laws_FnPeaksAdded.Pure) (a0 : Option Addr) (len0 cap0 : Nat) (z0 : List Int) (w : World) (w0 : (a0 = none ∧ len0 = 0 ∧ cap0 = 0 ∧ z0 = []) ∨ ∃ x, a0 = some x ∧ len0 ≤ cap0 ∧ cap0 ≤ maxLen ∧ z0.length = cap0 ∧ (∀ i, i < z0.length → w.cell? (x.add i) = some (.int .u8 (z0.getD i 0))) ∧ ∀ n ∈ z0, (Lit.int .u8 n).wf = true) (y0 : len0 * 1 ≤ 140737488351232) :
    Calls Try.prog 13 #[.slice a0 len0 cap0] w fun e w' => e = .returned (.bool true) ∧ Below w.heap.size w w' := by
  obtain ⟨l0, rfl, hr0, hm0, hw0, hc0⟩ := ReadsInt.ofRowC w0
  obtain ⟨k, h⟩ := P l0 hm0 y0 hw0
  refine (laws_FnPeaksAdded.calls k _ _ l0 true rfl w (Kd.C_of_reads (d := (0 : Int)) (h1 := fun _ => rfl) hr0) hc0 h).mono ?_
  rintro e w' ⟨rfl, hd⟩
  exact ⟨rfl, hd⟩

end
end Go.Proofs.Ytemfciflhbhobaa.B
