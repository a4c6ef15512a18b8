/- What the Go functions loop.example/belfry/laws.eqGrowthS do is what the Lean functions .f of their names here say; condition: .f gives an answer. (Written by the session's program pp.py over the kit's print; Lean checks it.) -/
import Derived.Test.YtflckegggopdnaaZCEK
import Derived.Test.YtflckegggopdnaaZCEM
import Derived.Test.YtflckegggopdnaaZCEFLawsEqGrowth
namespace Go.Proofs.Ytflckegggopdnaa.B
open Go.RowKit Go.Proofs.YtflckegggopdnaaW.PrintWords Go.Proofs.YtflckegggopdnaaW.PrintLast Go.Proofs.YtflckegggopdnaaW.PrintMore
attribute [local go_sem] max2_int min2_int max_two min_two max_three min_three max_four min_four
set_option linter.unusedVariables false
set_option linter.unusedSimpArgs false
section
def laws_eqGrowthS.l0 : Nat → List (S51) → List (S51) → Int → Option (Bool)
  | 0, _, _, _ => none
  | k + 1, x0, x1, x5 => if x5 < (x0.length : Int) then (if 0 ≤ x5 then (if x5 < (x1.length : Int) then ((laws_eqGrowth.f k ((rd_T51 x0 x5).f0.f0) ((rd_T51 x0 x5).f0.f1.f0) ((rd_T51 x0 x5).f0.f1.f1) ((rd_T51 x0 x5).f0.f1.f2) ((rd_T51 x0 x5).f0.f1.f3) ((rd_T51 x0 x5).f1) ((rd_T51 x1 x5).f0.f0) ((rd_T51 x1 x5).f0.f1.f0) ((rd_T51 x1 x5).f0.f1.f1) ((rd_T51 x1 x5).f0.f1.f2) ((rd_T51 x1 x5).f0.f1.f3) ((rd_T51 x1 x5).f1)).bind fun t515 => (if t515 = true then (laws_eqGrowthS.l0 k x0 x1 (wrap64 (x5 + 1))) else (some false))) else (none)) else (none)) else (some true)
def laws_eqGrowthS.f (k : Nat) (l0 : List (S51)) (l1 : List (S51)) : Option (Bool) := if (l0.length : Int) = (l1.length : Int) then (laws_eqGrowthS.l0 k l0 l1 0) else (some false)
def laws_eqGrowthS.T6 : Bool × List (List Nat × List Nat) := (true, [([], []), ([], []), ([0, 1], [0, 1]), ([2], [2]), ([], []), ([], []), ([4, 5], [4, 5]), ([6], [6]), ([3, 7], [3, 7]), ([8], [8])])
def laws_eqGrowthS.B6 : List Nat := [0, 0, 3, 7, 0, 0, 48, 112, 255, 511]
theorem laws_eqGrowthS.tab6 : rtab .any (opsOf Try.f16 6) = laws_eqGrowthS.T6 := by kernel_rfl
theorem laws_eqGrowthS.bits6 : waitsOk laws_eqGrowthS.T6.2 laws_eqGrowthS.B6 = true := by kernel_rfl
set_option maxHeartbeats 8000000 in
set_option maxRecDepth 100000 in
theorem laws_eqGrowthS.calls (k : Nat) (A0 : Option Addr) (c0 : Nat) (l0 : List (S51)) (A1 : Option Addr) (c1 : Nat) (l1 : List (S51)) (r : Bool) (w : World) (hr0 : Kd.C k51 w A0 l0.length l0) (hc0 : l0.length ≤ c0) (hr1 : Kd.C k51 w A1 l1.length l1) (hc1 : l1.length ≤ c1) (h : laws_eqGrowthS.f k l0 l1 = some r) :
    Calls Try.prog 16 #[.slice A0 l0.length c0, .slice A1 l1.length c1] w fun e w' => e = .returned (.bool r) ∧ Below w.heap.size w w' := by
  have hu51 := Try.underlying51
  have HR0 := Aside0.mk hr0
  have HC0 := Aside0.mk hc0
  clear hr0 hc0
  have HR1 := Aside0.mk hr1
  have HC1 := Aside0.mk hc1
  clear hr1 hc1
  have HB := Aside0.mk (Below.refl w.heap.size w)
  have H : (if (l0.length : Int) = (l1.length : Int) then (laws_eqGrowthS.l0 k l0 l1 0) else (some false)) = some r := h
  clear h
  by_cases c3 : (l0.length : Int) = (l1.length : Int)
  · rw [if_pos c3] at H
    have c3b0 : ((l0.length : Int) == (l1.length : Int)) = true := beq_iff_eq.mpr c3
    have c3b1 : ((l0.length : Int) != (l1.length : Int)) = false := bne_eq_false_iff_eq.mpr c3
    have c3b2 : (l0.length == l1.length) = true := by first | simpa using c3 | (simp at c3 ⊢; omega)
    clear c3
    have H' := Aside0.mk H
    clear H
    go_enter Try.func16, Try.ntmps16
    go_wp2
    go_loopg [5] k (fun kq v5 w' => ∃ (x5_1 : Int), v5 = .int .i64 x5_1 ∧ Aside0 (laws_eqGrowthS.l0 kq l0 l1 x5_1 = some r) ∧ Aside0 (kq ≤ k) ∧ Aside0 (Below w.heap.size w w'))
    case atStart => exact ⟨(0), (by first | rfl | (simp; done) | (simp [*]; done)), H', ⟨Nat.le_refl _⟩, ⟨bel_⟩⟩
    case round =>
      clear H'
      (try clear c1); (try clear c3); (try clear c3b0); (try clear c3b1); (try clear c3b2)
      obtain ⟨x5_1, rfl, HA, HK1, HB⟩ := hrel
      cases gk with
      | zero => exact absurd HA.out (by simp [laws_eqGrowthS.l0])
      | succ k1 =>
        have H := HA.out
        clear HA
        simp only [laws_eqGrowthS.l0] at H
        by_cases c4 : x5_1 < (l0.length : Int)
        · rw [if_pos c4] at H
          have c4b0 : decide (x5_1 < (l0.length : Int)) = true := decide_eq_true c4
          clear c4
          by_cases c5 : 0 ≤ x5_1
          · rw [if_pos c5] at H
            have c5b0 : decide (0 ≤ x5_1) = true := decide_eq_true c5
            clear c5
            by_cases c6 : x5_1 < (l1.length : Int)
            · rw [if_pos c6] at H
              have c6b0 : decide (x5_1 < (l1.length : Int)) = true := decide_eq_true c6
              clear c6
              obtain ⟨t515, A7, H⟩ := bnd_ H
              by_cases c8 : t515 = true
              · subst c8
                rw [if_pos rfl] at H
                have H' := Aside0.mk H
                clear H
                try go_wp2
                replace HB := Aside0.mk (below_drew1 HB.out)
                have p513 : 0 ≤ (x5_1 : Int) := ofd_
                have q513 : x5_1 < (l0.length : Int) := ofd_
                obtain ⟨ad513, A513_5, c513_5, e513, hx513_0, hx513_1, hx513_2, hx513_3, hx513_4, hx513_5, hl513_5, hi513_5⟩ := at_T51 HR0.out x5_1 p513 q513
                have hw513_5 := hx513_5
                have hw513_4 := hx513_4
                have hw513_3 := hx513_3
                have hw513_2 := hx513_2
                have hw513_1 := hx513_1
                have hw513_0 := hx513_0
                cases e513
                replace hx513_0 := pw_cell_below HB.out hx513_0
                replace hx513_1 := pw_cell_below HB.out hx513_1
                replace hx513_2 := pw_cell_below HB.out hx513_2
                replace hx513_3 := pw_cell_below HB.out hx513_3
                replace hx513_4 := pw_cell_below HB.out hx513_4
                replace hx513_5 := pw_cell_below HB.out hx513_5
                have HR513_5 := Aside0.mk hi513_5
                have HC513_5 := Aside0.mk hl513_5
                clear hi513_5 hl513_5
                replace p513 := eq_true p513
                replace q513 := eq_true q513
                have p514 : 0 ≤ (x5_1 : Int) := ofd_
                have q514 : x5_1 < (l1.length : Int) := ofd_
                obtain ⟨ad514, A514_5, c514_5, e514, hx514_0, hx514_1, hx514_2, hx514_3, hx514_4, hx514_5, hl514_5, hi514_5⟩ := at_T51 HR1.out x5_1 p514 q514
                have hw514_5 := hx514_5
                have hw514_4 := hx514_4
                have hw514_3 := hx514_3
                have hw514_2 := hx514_2
                have hw514_1 := hx514_1
                have hw514_0 := hx514_0
                cases e514
                replace hx514_0 := pw_cell_below HB.out hx514_0
                replace hx514_1 := pw_cell_below HB.out hx514_1
                replace hx514_2 := pw_cell_below HB.out hx514_2
                replace hx514_3 := pw_cell_below HB.out hx514_3
                replace hx514_4 := pw_cell_below HB.out hx514_4
                replace hx514_5 := pw_cell_below HB.out hx514_5
                have HR514_5 := Aside0.mk hi514_5
                have HC514_5 := Aside0.mk hl514_5
                clear hi514_5 hl514_5
                replace p514 := eq_true p514
                replace q514 := eq_true q514
                refine start_ (n := 10) (S := fun w' => w'.cell? (ad513.add ((x5_1).toNat * 6)) = some (.int .i64 ((rd_T51 l0 x5_1).f0.f0)) ∧ w'.cell? ⟨(ad513.add ((x5_1).toNat * 6)).block, (ad513.add ((x5_1).toNat * 6)).off + 1, none⟩ = some (.int .u64 ((rd_T51 l0 x5_1).f0.f1.f0)) ∧ w'.cell? ⟨(ad513.add ((x5_1).toNat * 6)).block, (ad513.add ((x5_1).toNat * 6)).off + 2, none⟩ = some (.int .u64 ((rd_T51 l0 x5_1).f0.f1.f1)) ∧ w'.cell? ⟨(ad513.add ((x5_1).toNat * 6)).block, (ad513.add ((x5_1).toNat * 6)).off + 3, none⟩ = some (.int .u64 ((rd_T51 l0 x5_1).f0.f1.f2)) ∧ w'.cell? ⟨(ad513.add ((x5_1).toNat * 6)).block, (ad513.add ((x5_1).toNat * 6)).off + 4, none⟩ = some (.int .u64 ((rd_T51 l0 x5_1).f0.f1.f3)) ∧ w'.cell? ⟨(ad513.add ((x5_1).toNat * 6)).block, (ad513.add ((x5_1).toNat * 6)).off + 5, none⟩ = some (.slice A513_5 ((rd_T51 l0 x5_1).f1).length c513_5) ∧ w'.cell? (ad514.add ((x5_1).toNat * 6)) = some (.int .i64 ((rd_T51 l1 x5_1).f0.f0)) ∧ w'.cell? ⟨(ad514.add ((x5_1).toNat * 6)).block, (ad514.add ((x5_1).toNat * 6)).off + 1, none⟩ = some (.int .u64 ((rd_T51 l1 x5_1).f0.f1.f0)) ∧ w'.cell? ⟨(ad514.add ((x5_1).toNat * 6)).block, (ad514.add ((x5_1).toNat * 6)).off + 2, none⟩ = some (.int .u64 ((rd_T51 l1 x5_1).f0.f1.f1)) ∧ w'.cell? ⟨(ad514.add ((x5_1).toNat * 6)).block, (ad514.add ((x5_1).toNat * 6)).off + 3, none⟩ = some (.int .u64 ((rd_T51 l1 x5_1).f0.f1.f2)) ∧ w'.cell? ⟨(ad514.add ((x5_1).toNat * 6)).block, (ad514.add ((x5_1).toNat * 6)).off + 4, none⟩ = some (.int .u64 ((rd_T51 l1 x5_1).f0.f1.f3)) ∧ w'.cell? ⟨(ad514.add ((x5_1).toNat * 6)).block, (ad514.add ((x5_1).toNat * 6)).off + 5, none⟩ = some (.slice A514_5 ((rd_T51 l1 x5_1).f1).length c514_5)) (ds := []) #[false, false, false, false, false, false, false, false, false, false] (by kernel_rfl) rfl rfl ⟨(pw_cell_below HB.out hw513_0), (pw_cell_below HB.out hw513_1), (pw_cell_below HB.out hw513_2), (pw_cell_below HB.out hw513_3), (pw_cell_below HB.out hw513_4), (pw_cell_below HB.out hw513_5), (pw_cell_below HB.out hw514_0), (pw_cell_below HB.out hw514_1), (pw_cell_below HB.out hw514_2), (pw_cell_below HB.out hw514_3), (pw_cell_below HB.out hw514_4), (pw_cell_below HB.out hw514_5)⟩ (fun hHeld => ?_); refine with_tabW laws_eqGrowthS.tab6 laws_eqGrowthS.bits6 (fun HT_ HW_ => ?_)
                generalize wr.drew = w9 at HB HR513_5 HR514_5 hx513_0 hx513_1 hx513_2 hx513_3 hx513_4 hx513_5 hx514_0 hx514_1 hx514_2 hx514_3 hx514_4 hx514_5 hHeld ⊢
                refine pureP_ 0 (some 17) #[true, false, false, false, false, false, false, false, false, false] HT_ ?_
                refine pureP_ 1 (some 18) #[true, true, false, false, false, false, false, false, false, false] HT_ ?_
                refine pureP_ 2 (some 19) #[true, true, true, false, false, false, false, false, false, false] HT_ ?_
                refine pureP_ 4 (some 21) #[true, true, true, false, true, false, false, false, false, false] HT_ ?_
                refine pureP_ 5 (some 22) #[true, true, true, false, true, true, false, false, false, false] HT_ ?_
                refine pureP_ 6 (some 23) #[true, true, true, false, true, true, true, false, false, false] HT_ ?_
                refine takeP_ 3 (some 20) #[true, true, true, true, true, true, true, false, false, false] HT_ HW_ hHeld ?_
                refine takeP_ 7 (some 24) #[true, true, true, true, true, true, true, true, false, false] HT_ HW_ hHeld ?_
                refine oneP_ 8 (some 25) #[true, true, true, true, true, true, true, true, true, false] HT_ (fun K hK => ?_)
                refine goN_ Try.func24 #[.agg #[.int .i64 ((rd_T51 l0 x5_1).f0.f0), .int .u64 ((rd_T51 l0 x5_1).f0.f1.f0), .int .u64 ((rd_T51 l0 x5_1).f0.f1.f1), .int .u64 ((rd_T51 l0 x5_1).f0.f1.f2), .int .u64 ((rd_T51 l0 x5_1).f0.f1.f3), .slice A513_5 ((rd_T51 l0 x5_1).f1).length c513_5], .agg #[.int .i64 ((rd_T51 l1 x5_1).f0.f0), .int .u64 ((rd_T51 l1 x5_1).f0.f1.f0), .int .u64 ((rd_T51 l1 x5_1).f0.f1.f1), .int .u64 ((rd_T51 l1 x5_1).f0.f1.f2), .int .u64 ((rd_T51 l1 x5_1).f0.f1.f3), .slice A514_5 ((rd_T51 l1 x5_1).f1).length c514_5]] ?_
                with_reducible refine (laws_eqGrowth.calls k1 ((rd_T51 l0 x5_1).f0.f0) ((rd_T51 l0 x5_1).f0.f1.f0) ((rd_T51 l0 x5_1).f0.f1.f1) ((rd_T51 l0 x5_1).f0.f1.f2) ((rd_T51 l0 x5_1).f0.f1.f3) _ _ ((rd_T51 l0 x5_1).f1) ((rd_T51 l1 x5_1).f0.f0) ((rd_T51 l1 x5_1).f0.f1.f0) ((rd_T51 l1 x5_1).f0.f1.f1) ((rd_T51 l1 x5_1).f0.f1.f2) ((rd_T51 l1 x5_1).f0.f1.f3) _ _ ((rd_T51 l1 x5_1).f1) true _ ?side1 ?side2 ?side3 ?side4 A7.out).mono ?_
                (case side1 => repeat (first | exact (Kd.C_below HR513_5.out HB.out) | (with_reducible refine Kd.C_alloc ?_ _) | (with_reducible refine Kd.C_drewN ?_ _) | (with_reducible refine Kd.C_drew ?_)))
                (case side2 => exact HC513_5.out)
                (case side3 => repeat (first | exact (Kd.C_below HR514_5.out HB.out) | (with_reducible refine Kd.C_alloc ?_ _) | (with_reducible refine Kd.C_drewN ?_ _) | (with_reducible refine Kd.C_drew ?_)))
                (case side4 => exact HC514_5.out)
                rintro e w10 ⟨rfl, hb⟩
                refine ⟨_, rfl, ?_⟩
                replace HB := stepB_ hb
                (try clear hb)
                refine hK.out _ _ ⟨(pw_cell_below HB.out hw513_0), (pw_cell_below HB.out hw513_1), (pw_cell_below HB.out hw513_2), (pw_cell_below HB.out hw513_3), (pw_cell_below HB.out hw513_4), (pw_cell_below HB.out hw513_5), (pw_cell_below HB.out hw514_0), (pw_cell_below HB.out hw514_1), (pw_cell_below HB.out hw514_2), (pw_cell_below HB.out hw514_3), (pw_cell_below HB.out hw514_4), (pw_cell_below HB.out hw514_5)⟩ (fun hHeld => ?_)
                clear hK K
                refine norm_ (a' := ?_) ?_ ?_
                rotate_left
                · show Act.put _ (some 25) _ = _
                  simp only [Act.put, List.setIfInBounds_toArray, List.set_cons_zero, List.set_cons_succ, i64_w, i32_w]
                  rfl
                refine pureP_ 9 (some 26) #[true, true, true, true, true, true, true, true, true, true] HT_ ?_
                refine done_ (done_of HT_.out (by kernel_rfl)) ?_
                try go_wp2
                go_roundg k1
                case measure => have := HK1.out; omega
                case rel => exact ⟨(wrap64 (x5_1 + 1)), (by first | rfl | (simp; done) | (simp [*]; done)), H', ⟨by have := HK1.out; omega⟩, ⟨bel_⟩⟩
              · replace c8 := Bool.eq_false_iff.mpr c8
                subst c8
                rw [if_neg (show ¬ (false = true) by decide)] at H
                obtain rfl := Option.some.inj H
                try go_wp2
                replace HB := Aside0.mk (below_drew1 HB.out)
                have p513 : 0 ≤ (x5_1 : Int) := ofd_
                have q513 : x5_1 < (l0.length : Int) := ofd_
                obtain ⟨ad513, A513_5, c513_5, e513, hx513_0, hx513_1, hx513_2, hx513_3, hx513_4, hx513_5, hl513_5, hi513_5⟩ := at_T51 HR0.out x5_1 p513 q513
                have hw513_5 := hx513_5
                have hw513_4 := hx513_4
                have hw513_3 := hx513_3
                have hw513_2 := hx513_2
                have hw513_1 := hx513_1
                have hw513_0 := hx513_0
                cases e513
                replace hx513_0 := pw_cell_below HB.out hx513_0
                replace hx513_1 := pw_cell_below HB.out hx513_1
                replace hx513_2 := pw_cell_below HB.out hx513_2
                replace hx513_3 := pw_cell_below HB.out hx513_3
                replace hx513_4 := pw_cell_below HB.out hx513_4
                replace hx513_5 := pw_cell_below HB.out hx513_5
                have HR513_5 := Aside0.mk hi513_5
                have HC513_5 := Aside0.mk hl513_5
                clear hi513_5 hl513_5
                replace p513 := eq_true p513
                replace q513 := eq_true q513
                have p514 : 0 ≤ (x5_1 : Int) := ofd_
                have q514 : x5_1 < (l1.length : Int) := ofd_
                obtain ⟨ad514, A514_5, c514_5, e514, hx514_0, hx514_1, hx514_2, hx514_3, hx514_4, hx514_5, hl514_5, hi514_5⟩ := at_T51 HR1.out x5_1 p514 q514
                have hw514_5 := hx514_5
                have hw514_4 := hx514_4
                have hw514_3 := hx514_3
                have hw514_2 := hx514_2
                have hw514_1 := hx514_1
                have hw514_0 := hx514_0
                cases e514
                replace hx514_0 := pw_cell_below HB.out hx514_0
                replace hx514_1 := pw_cell_below HB.out hx514_1
                replace hx514_2 := pw_cell_below HB.out hx514_2
                replace hx514_3 := pw_cell_below HB.out hx514_3
                replace hx514_4 := pw_cell_below HB.out hx514_4
                replace hx514_5 := pw_cell_below HB.out hx514_5
                have HR514_5 := Aside0.mk hi514_5
                have HC514_5 := Aside0.mk hl514_5
                clear hi514_5 hl514_5
                replace p514 := eq_true p514
                replace q514 := eq_true q514
                refine start_ (n := 10) (S := fun w' => w'.cell? (ad513.add ((x5_1).toNat * 6)) = some (.int .i64 ((rd_T51 l0 x5_1).f0.f0)) ∧ w'.cell? ⟨(ad513.add ((x5_1).toNat * 6)).block, (ad513.add ((x5_1).toNat * 6)).off + 1, none⟩ = some (.int .u64 ((rd_T51 l0 x5_1).f0.f1.f0)) ∧ w'.cell? ⟨(ad513.add ((x5_1).toNat * 6)).block, (ad513.add ((x5_1).toNat * 6)).off + 2, none⟩ = some (.int .u64 ((rd_T51 l0 x5_1).f0.f1.f1)) ∧ w'.cell? ⟨(ad513.add ((x5_1).toNat * 6)).block, (ad513.add ((x5_1).toNat * 6)).off + 3, none⟩ = some (.int .u64 ((rd_T51 l0 x5_1).f0.f1.f2)) ∧ w'.cell? ⟨(ad513.add ((x5_1).toNat * 6)).block, (ad513.add ((x5_1).toNat * 6)).off + 4, none⟩ = some (.int .u64 ((rd_T51 l0 x5_1).f0.f1.f3)) ∧ w'.cell? ⟨(ad513.add ((x5_1).toNat * 6)).block, (ad513.add ((x5_1).toNat * 6)).off + 5, none⟩ = some (.slice A513_5 ((rd_T51 l0 x5_1).f1).length c513_5) ∧ w'.cell? (ad514.add ((x5_1).toNat * 6)) = some (.int .i64 ((rd_T51 l1 x5_1).f0.f0)) ∧ w'.cell? ⟨(ad514.add ((x5_1).toNat * 6)).block, (ad514.add ((x5_1).toNat * 6)).off + 1, none⟩ = some (.int .u64 ((rd_T51 l1 x5_1).f0.f1.f0)) ∧ w'.cell? ⟨(ad514.add ((x5_1).toNat * 6)).block, (ad514.add ((x5_1).toNat * 6)).off + 2, none⟩ = some (.int .u64 ((rd_T51 l1 x5_1).f0.f1.f1)) ∧ w'.cell? ⟨(ad514.add ((x5_1).toNat * 6)).block, (ad514.add ((x5_1).toNat * 6)).off + 3, none⟩ = some (.int .u64 ((rd_T51 l1 x5_1).f0.f1.f2)) ∧ w'.cell? ⟨(ad514.add ((x5_1).toNat * 6)).block, (ad514.add ((x5_1).toNat * 6)).off + 4, none⟩ = some (.int .u64 ((rd_T51 l1 x5_1).f0.f1.f3)) ∧ w'.cell? ⟨(ad514.add ((x5_1).toNat * 6)).block, (ad514.add ((x5_1).toNat * 6)).off + 5, none⟩ = some (.slice A514_5 ((rd_T51 l1 x5_1).f1).length c514_5)) (ds := []) #[false, false, false, false, false, false, false, false, false, false] (by kernel_rfl) rfl rfl ⟨(pw_cell_below HB.out hw513_0), (pw_cell_below HB.out hw513_1), (pw_cell_below HB.out hw513_2), (pw_cell_below HB.out hw513_3), (pw_cell_below HB.out hw513_4), (pw_cell_below HB.out hw513_5), (pw_cell_below HB.out hw514_0), (pw_cell_below HB.out hw514_1), (pw_cell_below HB.out hw514_2), (pw_cell_below HB.out hw514_3), (pw_cell_below HB.out hw514_4), (pw_cell_below HB.out hw514_5)⟩ (fun hHeld => ?_); refine with_tabW laws_eqGrowthS.tab6 laws_eqGrowthS.bits6 (fun HT_ HW_ => ?_)
                generalize wr.drew = w11 at HB HR513_5 HR514_5 hx513_0 hx513_1 hx513_2 hx513_3 hx513_4 hx513_5 hx514_0 hx514_1 hx514_2 hx514_3 hx514_4 hx514_5 hHeld ⊢
                refine pureP_ 0 (some 17) #[true, false, false, false, false, false, false, false, false, false] HT_ ?_
                refine pureP_ 1 (some 18) #[true, true, false, false, false, false, false, false, false, false] HT_ ?_
                refine pureP_ 2 (some 19) #[true, true, true, false, false, false, false, false, false, false] HT_ ?_
                refine pureP_ 4 (some 21) #[true, true, true, false, true, false, false, false, false, false] HT_ ?_
                refine pureP_ 5 (some 22) #[true, true, true, false, true, true, false, false, false, false] HT_ ?_
                refine pureP_ 6 (some 23) #[true, true, true, false, true, true, true, false, false, false] HT_ ?_
                refine takeP_ 3 (some 20) #[true, true, true, true, true, true, true, false, false, false] HT_ HW_ hHeld ?_
                refine takeP_ 7 (some 24) #[true, true, true, true, true, true, true, true, false, false] HT_ HW_ hHeld ?_
                refine oneP_ 8 (some 25) #[true, true, true, true, true, true, true, true, true, false] HT_ (fun K hK => ?_)
                refine goN_ Try.func24 #[.agg #[.int .i64 ((rd_T51 l0 x5_1).f0.f0), .int .u64 ((rd_T51 l0 x5_1).f0.f1.f0), .int .u64 ((rd_T51 l0 x5_1).f0.f1.f1), .int .u64 ((rd_T51 l0 x5_1).f0.f1.f2), .int .u64 ((rd_T51 l0 x5_1).f0.f1.f3), .slice A513_5 ((rd_T51 l0 x5_1).f1).length c513_5], .agg #[.int .i64 ((rd_T51 l1 x5_1).f0.f0), .int .u64 ((rd_T51 l1 x5_1).f0.f1.f0), .int .u64 ((rd_T51 l1 x5_1).f0.f1.f1), .int .u64 ((rd_T51 l1 x5_1).f0.f1.f2), .int .u64 ((rd_T51 l1 x5_1).f0.f1.f3), .slice A514_5 ((rd_T51 l1 x5_1).f1).length c514_5]] ?_
                with_reducible refine (laws_eqGrowth.calls k1 ((rd_T51 l0 x5_1).f0.f0) ((rd_T51 l0 x5_1).f0.f1.f0) ((rd_T51 l0 x5_1).f0.f1.f1) ((rd_T51 l0 x5_1).f0.f1.f2) ((rd_T51 l0 x5_1).f0.f1.f3) _ _ ((rd_T51 l0 x5_1).f1) ((rd_T51 l1 x5_1).f0.f0) ((rd_T51 l1 x5_1).f0.f1.f0) ((rd_T51 l1 x5_1).f0.f1.f1) ((rd_T51 l1 x5_1).f0.f1.f2) ((rd_T51 l1 x5_1).f0.f1.f3) _ _ ((rd_T51 l1 x5_1).f1) false _ ?side1 ?side2 ?side3 ?side4 A7.out).mono ?_
                (case side1 => repeat (first | exact (Kd.C_below HR513_5.out HB.out) | (with_reducible refine Kd.C_alloc ?_ _) | (with_reducible refine Kd.C_drewN ?_ _) | (with_reducible refine Kd.C_drew ?_)))
                (case side2 => exact HC513_5.out)
                (case side3 => repeat (first | exact (Kd.C_below HR514_5.out HB.out) | (with_reducible refine Kd.C_alloc ?_ _) | (with_reducible refine Kd.C_drewN ?_ _) | (with_reducible refine Kd.C_drew ?_)))
                (case side4 => exact HC514_5.out)
                rintro e w12 ⟨rfl, hb⟩
                refine ⟨_, rfl, ?_⟩
                replace HB := stepB_ hb
                (try clear hb)
                refine hK.out _ _ ⟨(pw_cell_below HB.out hw513_0), (pw_cell_below HB.out hw513_1), (pw_cell_below HB.out hw513_2), (pw_cell_below HB.out hw513_3), (pw_cell_below HB.out hw513_4), (pw_cell_below HB.out hw513_5), (pw_cell_below HB.out hw514_0), (pw_cell_below HB.out hw514_1), (pw_cell_below HB.out hw514_2), (pw_cell_below HB.out hw514_3), (pw_cell_below HB.out hw514_4), (pw_cell_below HB.out hw514_5)⟩ (fun hHeld => ?_)
                clear hK K
                refine norm_ (a' := ?_) ?_ ?_
                rotate_left
                · show Act.put _ (some 25) _ = _
                  simp only [Act.put, List.setIfInBounds_toArray, List.set_cons_zero, List.set_cons_succ, i64_w, i32_w]
                  rfl
                refine pureP_ 9 (some 26) #[true, true, true, true, true, true, true, true, true, true] HT_ ?_
                refine done_ (done_of HT_.out (by kernel_rfl)) ?_
                try go_wp2
                go_ret
                exact ⟨rfl_, bel_⟩
            · rw [if_neg c6] at H
              exact absurd H (by simp)
          · rw [if_neg c5] at H
            exact absurd H (by simp)
        · rw [if_neg c4] at H
          have c4b0 : decide (x5_1 < (l0.length : Int)) = false := decide_eq_false c4
          clear c4
          obtain rfl := Option.some.inj H
          go_wp2
          go_ret
          exact ⟨rfl_, bel_⟩
  · rw [if_neg c3] at H
    have c3b0 : ((l0.length : Int) == (l1.length : Int)) = false := beq_eq_false_iff_ne.mpr c3
    have c3b1 : ((l0.length : Int) != (l1.length : Int)) = true := bne_iff_ne.mpr c3
    have c3b2 : (l0.length == l1.length) = false := by first | simpa using c3 | (simp at c3 ⊢; omega)
    obtain rfl := Option.some.inj H
    go_enter Try.func16, Try.ntmps16
    go_wp2
    go_ret
    exact ⟨rfl_, bel_⟩
end
end Go.Proofs.Ytflckegggopdnaa.B
