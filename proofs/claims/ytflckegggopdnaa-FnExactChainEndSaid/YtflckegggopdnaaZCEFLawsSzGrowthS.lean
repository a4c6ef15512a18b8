/- What the Go functions loop.example/belfry/laws.szGrowthS do is what the Lean functions .f of their names here say; condition: .f gives an answer. (Written by the session's program pp.py over the kit's print; Lean checks it.) -/
import Derived.Test.YtflckegggopdnaaZCEK
import Derived.Test.YtflckegggopdnaaZCEM
import Derived.Test.YtflckegggopdnaaZCEFLawsSzGrowth
namespace Go.Proofs.Ytflckegggopdnaa.B
open Go.RowKit Go.Proofs.YtflckegggopdnaaW.PrintWords Go.Proofs.YtflckegggopdnaaW.PrintLast Go.Proofs.YtflckegggopdnaaW.PrintMore
attribute [local go_sem] max2_int min2_int max_two min_two max_three min_three max_four min_four
set_option linter.unusedVariables false
set_option linter.unusedSimpArgs false
section
def laws_szGrowthS.l0 : Nat → List (S42) → Int → Int → Option (Int)
  | 0, _, _, _ => none
  | k + 1, x0, x1, x5 => if x5 < (x0.length : Int) then (if 0 ≤ x5 then ((laws_szGrowth.f ((rd_T42 x0 x5).f0.f0) ((rd_T42 x0 x5).f0.f1.f0) ((rd_T42 x0 x5).f0.f1.f1) ((rd_T42 x0 x5).f0.f1.f2) ((rd_T42 x0 x5).f0.f1.f3) ((rd_T42 x0 x5).f1) x1).bind fun t104 => (if t104 < 0 then (some (-1)) else (laws_szGrowthS.l0 k x0 t104 (wrap64 (x5 + 1))))) else (none)) else (some x1)
def laws_szGrowthS.f (k : Nat) (l0 : List (S42)) (a1 : Int) : Option (Int) := if (wrap64 (a1 - (l0.length : Int))) < 0 then (some (-1)) else (laws_szGrowthS.l0 k l0 (wrap64 (a1 - (l0.length : Int))) 0)
set_option maxHeartbeats 8000000 in
set_option maxRecDepth 100000 in
theorem laws_szGrowthS.calls (k : Nat) (A0 : Option Addr) (c0 : Nat) (l0 : List (S42)) (a1 : Int) (r : Int) (w : World) (hr0 : Kd.C k42 w A0 l0.length l0) (hc0 : l0.length ≤ c0) (h : laws_szGrowthS.f k l0 a1 = some r) :
    Calls Try.prog 10 #[.slice A0 l0.length c0, .int .i64 a1] w fun e w' => e = .returned (.int .i64 r) ∧ Below w.heap.size w w' := by
  have hu42 := Try.underlying42
  have HR0 := Aside0.mk hr0
  have HC0 := Aside0.mk hc0
  clear hr0 hc0
  have HB := Aside0.mk (Below.refl w.heap.size w)
  have H : (if (wrap64 (a1 - (l0.length : Int))) < 0 then (some (-1)) else (laws_szGrowthS.l0 k l0 (wrap64 (a1 - (l0.length : Int))) 0)) = some r := h
  clear h
  by_cases c3 : (wrap64 (a1 - (l0.length : Int))) < 0
  · rw [if_pos c3] at H
    have c3b0 : decide ((wrap64 (a1 - (l0.length : Int))) < 0) = true := decide_eq_true c3
    clear c3
    obtain rfl := Option.some.inj H
    go_enter Try.func10, Try.ntmps10
    go_wp2
    go_ret
    exact ⟨rfl_, bel_⟩
  · rw [if_neg c3] at H
    have c3b0 : decide ((wrap64 (a1 - (l0.length : Int))) < 0) = false := decide_eq_false c3
    clear c3
    have H' := Aside0.mk H
    clear H
    go_enter Try.func10, Try.ntmps10
    go_wp2
    go_loopg [1, 5] k (fun kq v1 v5 w' => ∃ (x1_1 : Int) (x5_1 : Int), v1 = .int .i64 x1_1 ∧ v5 = .int .i64 x5_1 ∧ Aside0 (laws_szGrowthS.l0 kq l0 x1_1 x5_1 = some r) ∧ Aside0 (kq ≤ k) ∧ Aside0 (Below w.heap.size w w'))
    case atStart => exact ⟨(wrap64 (a1 - (l0.length : Int))), (0), (by first | rfl | (simp; done) | (simp [*]; done)), (by first | rfl | (simp; done) | (simp [*]; done)), H', ⟨Nat.le_refl _⟩, ⟨bel_⟩⟩
    case round =>
      clear H'
      (try clear c3); (try clear c3b0)
      obtain ⟨x1_1, x5_1, rfl, rfl, HA, HK1, HB⟩ := hrel
      cases gk with
      | zero => exact absurd HA.out (by simp [laws_szGrowthS.l0])
      | succ k1 =>
        have H := HA.out
        clear HA
        simp only [laws_szGrowthS.l0] at H
        by_cases c4 : x5_1 < (l0.length : Int)
        · rw [if_pos c4] at H
          have c4b0 : decide (x5_1 < (l0.length : Int)) = true := decide_eq_true c4
          clear c4
          by_cases c5 : 0 ≤ x5_1
          · rw [if_pos c5] at H
            have c5b0 : decide (0 ≤ x5_1) = true := decide_eq_true c5
            clear c5
            obtain ⟨t104, A6, H⟩ := bnd_ H
            by_cases c7 : t104 < 0
            · rw [if_pos c7] at H
              have c7b0 : decide (t104 < 0) = true := decide_eq_true c7
              clear c7
              obtain rfl := Option.some.inj H
              have p103 : 0 ≤ (x5_1 : Int) := ofd_
              have q103 : x5_1 < (l0.length : Int) := ofd_
              obtain ⟨ad103, A103_5, c103_5, e103, hx103_0, hx103_1, hx103_2, hx103_3, hx103_4, hx103_5, hl103_5, hi103_5⟩ := at_T42 HR0.out x5_1 p103 q103
              cases e103
              replace hx103_0 := pw_cell_below HB.out hx103_0
              replace hx103_1 := pw_cell_below HB.out hx103_1
              replace hx103_2 := pw_cell_below HB.out hx103_2
              replace hx103_3 := pw_cell_below HB.out hx103_3
              replace hx103_4 := pw_cell_below HB.out hx103_4
              replace hx103_5 := pw_cell_below HB.out hx103_5
              have HR103_5 := Aside0.mk hi103_5
              have HC103_5 := Aside0.mk hl103_5
              clear hi103_5 hl103_5
              replace p103 := eq_true p103
              replace q103 := eq_true q103
              go_wp2_with (first | ((with_reducible refine gate_callee (f := 17) rfl ?_); refine goL_ (some 23) Try.func17 #[.agg #[.int .i64 ((rd_T42 l0 x5_1).f0.f0), .int .u64 ((rd_T42 l0 x5_1).f0.f1.f0), .int .u64 ((rd_T42 l0 x5_1).f0.f1.f1), .int .u64 ((rd_T42 l0 x5_1).f0.f1.f2), .int .u64 ((rd_T42 l0 x5_1).f0.f1.f3), .slice A103_5 ((rd_T42 l0 x5_1).f1).length c103_5], .int .i64 x1_1] ?_; (with_reducible refine (laws_szGrowth.calls ((rd_T42 l0 x5_1).f0.f0) ((rd_T42 l0 x5_1).f0.f1.f0) ((rd_T42 l0 x5_1).f0.f1.f1) ((rd_T42 l0 x5_1).f0.f1.f2) ((rd_T42 l0 x5_1).f0.f1.f3) _ _ ((rd_T42 l0 x5_1).f1) x1_1 t104 _ ?side1 ?side2 A6.out).mono ?_); (case side1 => repeat (first | exact (Kd.C_below HR103_5.out HB.out) | (with_reducible refine Kd.C_alloc ?_ _) | (with_reducible refine Kd.C_drewN ?_ _) | (with_reducible refine Kd.C_drew ?_))); (case side2 => exact HC103_5.out); rintro e w8 ⟨rfl, hb⟩; refine ⟨_, rfl, ?_⟩; replace HB := stepB_ hb; (try clear hb)))
              go_ret
              exact ⟨rfl_, bel_⟩
            · rw [if_neg c7] at H
              have c7b0 : decide (t104 < 0) = false := decide_eq_false c7
              clear c7
              have H' := Aside0.mk H
              clear H
              have p103 : 0 ≤ (x5_1 : Int) := ofd_
              have q103 : x5_1 < (l0.length : Int) := ofd_
              obtain ⟨ad103, A103_5, c103_5, e103, hx103_0, hx103_1, hx103_2, hx103_3, hx103_4, hx103_5, hl103_5, hi103_5⟩ := at_T42 HR0.out x5_1 p103 q103
              cases e103
              replace hx103_0 := pw_cell_below HB.out hx103_0
              replace hx103_1 := pw_cell_below HB.out hx103_1
              replace hx103_2 := pw_cell_below HB.out hx103_2
              replace hx103_3 := pw_cell_below HB.out hx103_3
              replace hx103_4 := pw_cell_below HB.out hx103_4
              replace hx103_5 := pw_cell_below HB.out hx103_5
              have HR103_5 := Aside0.mk hi103_5
              have HC103_5 := Aside0.mk hl103_5
              clear hi103_5 hl103_5
              replace p103 := eq_true p103
              replace q103 := eq_true q103
              go_wp2_with (first | ((with_reducible refine gate_callee (f := 17) rfl ?_); refine goL_ (some 23) Try.func17 #[.agg #[.int .i64 ((rd_T42 l0 x5_1).f0.f0), .int .u64 ((rd_T42 l0 x5_1).f0.f1.f0), .int .u64 ((rd_T42 l0 x5_1).f0.f1.f1), .int .u64 ((rd_T42 l0 x5_1).f0.f1.f2), .int .u64 ((rd_T42 l0 x5_1).f0.f1.f3), .slice A103_5 ((rd_T42 l0 x5_1).f1).length c103_5], .int .i64 x1_1] ?_; (with_reducible refine (laws_szGrowth.calls ((rd_T42 l0 x5_1).f0.f0) ((rd_T42 l0 x5_1).f0.f1.f0) ((rd_T42 l0 x5_1).f0.f1.f1) ((rd_T42 l0 x5_1).f0.f1.f2) ((rd_T42 l0 x5_1).f0.f1.f3) _ _ ((rd_T42 l0 x5_1).f1) x1_1 t104 _ ?side1 ?side2 A6.out).mono ?_); (case side1 => repeat (first | exact (Kd.C_below HR103_5.out HB.out) | (with_reducible refine Kd.C_alloc ?_ _) | (with_reducible refine Kd.C_drewN ?_ _) | (with_reducible refine Kd.C_drew ?_))); (case side2 => exact HC103_5.out); rintro e w9 ⟨rfl, hb⟩; refine ⟨_, rfl, ?_⟩; replace HB := stepB_ hb; (try clear hb)))
              go_roundg k1
              case measure => have := HK1.out; omega
              case rel => exact ⟨(t104), (wrap64 (x5_1 + 1)), (by first | rfl | (simp; done) | (simp [*]; done)), (by first | rfl | (simp; done) | (simp [*]; done)), H', ⟨by have := HK1.out; omega⟩, ⟨bel_⟩⟩
          · rw [if_neg c5] at H
            exact absurd H (by simp)
        · rw [if_neg c4] at H
          have c4b0 : decide (x5_1 < (l0.length : Int)) = false := decide_eq_false c4
          clear c4
          obtain rfl := Option.some.inj H
          go_wp2
          go_ret
          exact ⟨rfl_, bel_⟩
end
end Go.Proofs.Ytflckegggopdnaa.B
