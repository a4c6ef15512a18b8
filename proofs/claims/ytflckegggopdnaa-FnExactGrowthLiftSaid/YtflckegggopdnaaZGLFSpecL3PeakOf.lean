/- What the Go functions loop.example/belfry/spec.l3PeakOf do is what the Lean functions .f of their names here say; condition: .f gives an answer. (Written by the session's program pp.py over the kit's print; Lean checks it.) -/
import Derived.Test.YtflckegggopdnaaZGLK
import Derived.Test.YtflckegggopdnaaZGLM
import Derived.Test.YtflckegggopdnaaZGLGRuns1
namespace Go.Proofs.Ytflckegggopdnaa.B
open Go.RowKit Go.Proofs.YtflckegggopdnaaW.PrintWords Go.Proofs.YtflckegggopdnaaW.PrintLast Go.Proofs.YtflckegggopdnaaW.PrintMore
attribute [local go_sem] max2_int min2_int max_two min_two max_three min_three max_four min_four
set_option linter.unusedVariables false
set_option linter.unusedSimpArgs false
section
def spec_l3PeakOf.l0 : Nat → Int → Int → Int → Option (Int × Int)
  | 0, _, _, _ => none
  | k + 1, x0, x1, x6 => (spec_l2Half.f k (wrap64 (x0 - x6))).bind fun t568 => (if x1 ≥ (wrap64 (x6 + t568)) then ((spec_l2Half.f k (wrap64 (x0 - x6))).bind fun t569 => (spec_l3PeakOf.l0 k x0 x1 (wrap64 (x6 + t569)))) else ((spec_l2Half.f k (wrap64 (x0 - x6))).bind fun t570 => (some (x6, t570))))
def spec_l3PeakOf.f (k : Nat) (a0 : Int) (a1 : Int) : Option (Int × Int) := spec_l3PeakOf.l0 k a0 a1 0
set_option maxHeartbeats 8000000 in
set_option maxRecDepth 100000 in
theorem spec_l3PeakOf.calls (k : Nat) (a0 : Int) (a1 : Int) (r1 : Int) (r2 : Int) (w : World) (h : spec_l3PeakOf.f k a0 a1 = some (r1, r2)) :
    Calls Try.prog 83 #[.int .i64 a0, .int .i64 a1] w fun e w' => e = .returned (.tuple #[.int .i64 r1, .int .i64 r2]) ∧ Drawn0 w w' := by
  have H : (spec_l3PeakOf.l0 k a0 a1 0) = some (r1, r2) := h
  clear h
  have H' := Aside0.mk H
  clear H
  go_enter Try.func83, Try.ntmps83
  go_wp2
  go_loopg [6] k (fun kq v6 w' => ∃ (x6_1 : Int), v6 = .int .i64 x6_1 ∧ Aside0 (spec_l3PeakOf.l0 kq a0 a1 x6_1 = some (r1, r2)) ∧ Aside0 (kq ≤ k) ∧ Drawn0 w w')
  case atStart => exact ⟨(0), (by first | rfl | (simp; done) | (simp [*]; done)), H', ⟨Nat.le_refl _⟩, by repeat (first | exact Drawn0.refl _ | apply Drawn0.step)⟩
  case round =>
    clear H'
    obtain ⟨x6_1, rfl, HA, HK1, ⟨m1, rfl⟩⟩ := hrel
    cases gk with
    | zero => exact absurd HA.out (by simp [spec_l3PeakOf.l0])
    | succ k1 =>
      have H := HA.out
      clear HA
      simp only [spec_l3PeakOf.l0] at H
      obtain ⟨t568, A3, H⟩ := bnd_ H
      by_cases c4 : a1 ≥ (wrap64 (x6_1 + t568))
      · rw [if_pos c4] at H
        have c4b0 : decide ((wrap64 (x6_1 + t568)) ≤ a1) = true := decide_eq_true c4
        clear c4
        obtain ⟨t569, A5, H⟩ := bnd_ H
        have H' := Aside0.mk H
        clear H
        go_wp2_with (first | ((with_reducible refine gate_callee (f := 93) rfl ?_); refine goL_ (some 12) Try.func93 #[.int .i64 (wrap64 (a0 - x6_1))] ?_; (with_reducible refine (spec_l2Half.calls k1 (wrap64 (a0 - x6_1)) t568 _ A3.out).mono ?_); rintro e w' ⟨rfl, ⟨nd, rfl⟩⟩; refine ⟨_, rfl, ?_⟩) | ((with_reducible refine gate_callee (f := 93) rfl ?_); refine goL_ (some 19) Try.func93 #[.int .i64 (wrap64 (a0 - x6_1))] ?_; (with_reducible refine (spec_l2Half.calls k1 (wrap64 (a0 - x6_1)) t569 _ A5.out).mono ?_); rintro e w' ⟨rfl, ⟨nd, rfl⟩⟩; refine ⟨_, rfl, ?_⟩))
        go_roundg k1
        case measure => have := HK1.out; omega
        case rel => exact ⟨(wrap64 (x6_1 + t569)), (by first | rfl | (simp; done) | (simp [*]; done)), H', ⟨by have := HK1.out; omega⟩, by repeat (first | exact Drawn0.refl _ | apply Drawn0.step)⟩
      · rw [if_neg c4] at H
        have c4b0 : decide ((wrap64 (x6_1 + t568)) ≤ a1) = false := decide_eq_false c4
        clear c4
        obtain ⟨t570, A6, H⟩ := bnd_ H
        simp only [Option.some.injEq, Prod.mk.injEq] at H
        obtain ⟨rfl, rfl⟩ := H
        go_wp2_with (first | ((with_reducible refine gate_callee (f := 93) rfl ?_); refine goL_ (some 12) Try.func93 #[.int .i64 (wrap64 (a0 - x6_1))] ?_; (with_reducible refine (spec_l2Half.calls k1 (wrap64 (a0 - x6_1)) t568 _ A3.out).mono ?_); rintro e w' ⟨rfl, ⟨nd, rfl⟩⟩; refine ⟨_, rfl, ?_⟩) | ((with_reducible refine gate_callee (f := 93) rfl ?_); refine goL_ (some 25) Try.func93 #[.int .i64 (wrap64 (a0 - x6_1))] ?_; (with_reducible refine (spec_l2Half.calls k1 (wrap64 (a0 - x6_1)) t570 _ A6.out).mono ?_); rintro e w' ⟨rfl, ⟨nd, rfl⟩⟩; refine ⟨_, rfl, ?_⟩))
        go_ret2
        exact ⟨by first | rfl | (simp; done) | (simp [*]; done), by repeat (first | exact Drawn0.refl _ | apply Drawn0.step)⟩
end
end Go.Proofs.Ytflckegggopdnaa.B
